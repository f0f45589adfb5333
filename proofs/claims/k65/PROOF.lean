import PyProof.Rows.All
import Wide.All
import OpenK.AllK
import Wide.FinOn
import HandS.ForMost
import HandS.Wide
import HandS.TupAny
import HandS.TupMul
import HandS.TupLe
import KE.DataEq
import KE.LtData
import KE.DataCmp
import HandS.Flow
import HandS.Zip
import HandS.IsInst
import HandS.Words
import KE.KDictZip
import KE.GoesZip
import KE.GoesMore
import KE.KDictItemsList
import PySem.Challenge.RW_nosplitpays_k65_whole_cards_compared_for
set_option Elab.async false
set_option linter.all false
set_option maxRecDepth 100000
/-! DL1: the data layer: values as plain data, the store, the frame, the relations, the judgements. -/
namespace DL
open PySem PySem.Spec PyProof.Rows L2

abbrev PD := PyData
/-- a value: plain data; an object of the store; a list that is read where it stands; the script -/
inductive W where
  | py (d : PD)
  | obj (n : Nat)
  | brw (ds : List PD)
  | scr (ds : List PD)
/-- an object of the store -/
inductive GO where
  | lst (ds : List PD)
abbrev Sto := List GO
/-- an exception: its class, its attributes -/
structure Exn where
  cls : Addr
  fs : List (Str × W)
inductive R (α : Type) where
  | ok (a : α) (G : Sto)
  | exc (x : Exn) (G : Sto)
  | bad
abbrev M (α : Type) := Sto → R α
def ret {α : Type} (a : α) : M α := fun G => .ok a G
def bnd {α β : Type} (m : M α) (f : α → M β) : M β := fun G => match m G with
  | .ok a G' => f a G'
  | .exc x G' => .exc x G'
  | .bad => .bad
def lft {α : Type} (o : Sto → Option α) : M α := fun G => match o G with
  | some a => .ok a G
  | none => .bad
theorem bnd_ok {α β : Type} {m : M α} {f : α → M β} {G G' : Sto} {a : α} (h : m G = .ok a G') : bnd m f G = f a G' := by unfold bnd; rw [h]
theorem lft_ok {α : Type} {o : Sto → Option α} {G : Sto} {a : α} (h : o G = some a) : lft o G = .ok a G := by unfold lft; rw [h]

/-- a name's place in the frame: nothing, a value, a list of its own -/
inductive Slot where
  | none
  | val (w : W)
  | own (ds : List PD)
abbrev Fm := List Slot

/-! ### what a value is in the heap -/
structure C0 where
  P : Program
  w : World
  K : PySem.W.Frag
abbrev c0 (X : Cx) : C0 := ⟨X.prog, X.w, X.K⟩

/-- what never changes stays -/
structure Kp (H H' : Hp) : Prop where
  tup : ∀ a xs, H a = some (.tup xs) → H' a = some (.tup xs)
  frz : ∀ a o u, H a = some (.frz o u) → H' a = some (.frz o u)
theorem Kp.refl (H : Hp) : Kp H H := ⟨fun _ _ h => h, fun _ _ _ h => h⟩
theorem Kp.trans {H H1 H2 : Hp} (a : Kp H H1) (b : Kp H1 H2) : Kp H H2 := ⟨fun x xs h => b.tup x xs (a.tup x xs h), fun x o u h => b.frz x o u (a.frz x o u h)⟩

/-- a list of the written part -/
def KL (K : PySem.W.Frag) (a : Addr) (xs : List V) : Prop :=
  ∃ (o : Obj) (its : Array Value) (n : Nat), K.lookup a = some o ∧ o.cls = .type "list" ∧ o.dict = none ∧ o.data = .seq its n ∧ its.size ≤ sizeLine ∧ Vals xs its.toList
/-- a list that nobody writes any more -/
def FzL (H : Hp) (a : Addr) (xs : List V) : Prop := ∃ o, H a = some (.frz o (.lst xs))
theorem FzL.rd {H : Hp} {a : Addr} {xs : List V} (h : FzL H a xs) : Rd H a (.lst xs) := let ⟨o, h⟩ := h; .inr ⟨o, h⟩
theorem FzL.sq {K : PySem.W.Frag} {H : Hp} {a : Addr} {xs : List V} (h : FzL H a xs) : SqL K H a xs := .inl h.rd
theorem FzL.kp {H H' : Hp} {a : Addr} {xs : List V} (k : Kp H H') (h : FzL H a xs) : FzL H' a xs := let ⟨o, h⟩ := h; ⟨o, k.frz _ _ _ h⟩
theorem sqT_kp {K : PySem.W.Frag} {H H' : Hp} {a : Addr} {xs : List V} (k : Kp H H') (h : SqT K H a xs) : SqT K H' a xs := by
  rcases h with (h | ⟨o, h⟩) | h
  · exact .inl (.inl (k.tup _ _ h))
  · exact .inl (.inr ⟨o, k.frz _ _ _ h⟩)
  · exact .inr h

mutual
def Rp (C : C0) (H : Hp) : PD → V → Prop
  | .none, v => v = .non
  | .bool b, v => v = .bl b
  | .int i, v => v = .int i
  | .str x, v => v = .str x
  | .list ds, v => ∃ a xs, v = .ref a ∧ FzL H a xs ∧ RpA C H ds xs
  | .tuple ds, v => ∃ a xs, v = .ref a ∧ SqT C.K H a xs ∧ RpA C H ds xs
  | .dict _, _ => False
def RpA (C : C0) (H : Hp) : List PD → List V → Prop
  | [], vs => vs = []
  | d :: ds, vs => ∃ v r, vs = v :: r ∧ Rp C H d v ∧ RpA C H ds r
end
mutual
theorem Rp.kp {C : C0} {H H' : Hp} (k : Kp H H') : ∀ (d : PD) {v : V}, Rp C H d v → Rp C H' d v
  | .none, _, h => by unfold Rp at *; exact h
  | .bool _, _, h => by unfold Rp at *; exact h
  | .int _, _, h => by unfold Rp at *; exact h
  | .str _, _, h => by unfold Rp at *; exact h
  | .list ds, _, h => by
    unfold Rp at *
    obtain ⟨a, xs, e, f, r⟩ := h
    exact ⟨a, xs, e, f.kp k, RpA.kp k ds r⟩
  | .tuple ds, _, h => by
    unfold Rp at *
    obtain ⟨a, xs, e, f, r⟩ := h
    exact ⟨a, xs, e, sqT_kp k f, RpA.kp k ds r⟩
  | .dict _, _, h => by unfold Rp at h; exact h.elim
theorem RpA.kp {C : C0} {H H' : Hp} (k : Kp H H') : ∀ (ds : List PD) {vs : List V}, RpA C H ds vs → RpA C H' ds vs
  | [], _, h => by unfold RpA at *; exact h
  | d :: ds, _, h => by
    unfold RpA at *
    obtain ⟨v, r, e, h1, h2⟩ := h
    exact ⟨v, r, e, Rp.kp k d h1, RpA.kp k ds h2⟩
end
section
variable {C : C0} {H H' : Hp}
theorem rp_none {v : V} : Rp C H .none v ↔ v = .non := by unfold Rp; exact Iff.rfl
theorem rp_bool {b : Bool} {v : V} : Rp C H (.bool b) v ↔ v = .bl b := by unfold Rp; exact Iff.rfl
theorem rp_int {i : Int} {v : V} : Rp C H (.int i) v ↔ v = .int i := by unfold Rp; exact Iff.rfl
theorem rp_str {x : Str} {v : V} : Rp C H (.str x) v ↔ v = .str x := by unfold Rp; exact Iff.rfl
theorem rp_list {ds : List PD} {v : V} : Rp C H (.list ds) v ↔ ∃ a xs, v = .ref a ∧ FzL H a xs ∧ RpA C H ds xs := by unfold Rp; exact Iff.rfl
theorem rp_tuple {ds : List PD} {v : V} : Rp C H (.tuple ds) v ↔ ∃ a xs, v = .ref a ∧ SqT C.K H a xs ∧ RpA C H ds xs := by unfold Rp; exact Iff.rfl
theorem rp_dict {ds : List (PD × PD)} {v : V} : ¬ Rp C H (.dict ds) v := by unfold Rp; exact id
theorem rpA_nil {vs : List V} : RpA C H [] vs ↔ vs = [] := by unfold RpA; exact Iff.rfl
theorem rpA_cons {d : PD} {ds : List PD} {vs : List V} : RpA C H (d :: ds) vs ↔ ∃ v r, vs = v :: r ∧ Rp C H d v ∧ RpA C H ds r := by
  constructor
  · intro h; unfold RpA at h; exact h
  · intro h; unfold RpA; exact h
theorem RpA.nil : RpA C H [] [] := rpA_nil.mpr rfl
theorem RpA.cons {d : PD} {ds : List PD} {v : V} {vs : List V} (h : Rp C H d v) (t : RpA C H ds vs) : RpA C H (d :: ds) (v :: vs) := rpA_cons.mpr ⟨v, vs, rfl, h, t⟩
theorem RpA.length : ∀ {ds : List PD} {vs : List V}, RpA C H ds vs → ds.length = vs.length
  | [], _, h => by rw [rpA_nil.mp h]; rfl
  | d :: ds, _, h => by
    obtain ⟨v, r, rfl, _, t⟩ := rpA_cons.mp h
    simp only [List.length_cons, RpA.length t]
theorem RpA.get : ∀ {ds : List PD} {vs : List V} {i : Nat} {d : PD}, RpA C H ds vs → ds[i]? = some d → ∃ v, vs[i]? = some v ∧ Rp C H d v
  | [], _, _, _, h, e => by simp at e
  | d :: ds, _, 0, _, h, e => by
    obtain ⟨v, r, rfl, p, t⟩ := rpA_cons.mp h
    simp at e; subst e; exact ⟨v, rfl, p⟩
  | d :: ds, _, i + 1, _, h, e => by
    obtain ⟨v, r, rfl, p, t⟩ := rpA_cons.mp h
    simpa using RpA.get (i := i) t (by simpa using e)
theorem RpA.get' : ∀ {ds : List PD} {vs : List V} {i : Nat} {v : V}, RpA C H ds vs → vs[i]? = some v → ∃ d, ds[i]? = some d ∧ Rp C H d v
  | [], _, _, _, h, e => by rw [rpA_nil.mp h] at e; simp at e
  | d :: ds, _, 0, _, h, e => by
    obtain ⟨v, r, rfl, p, t⟩ := rpA_cons.mp h
    simp at e; subst e; exact ⟨d, rfl, p⟩
  | d :: ds, _, i + 1, _, h, e => by
    obtain ⟨v, r, rfl, p, t⟩ := rpA_cons.mp h
    simpa using RpA.get' (i := i) t (by simpa using e)
theorem RpA.append : ∀ {ds : List PD} {vs : List V} {es : List PD} {us : List V}, RpA C H ds vs → RpA C H es us → RpA C H (ds ++ es) (vs ++ us)
  | [], _, _, _, h, k => by rw [rpA_nil.mp h]; exact k
  | d :: ds, _, _, _, h, k => by
    obtain ⟨v, r, rfl, p, t⟩ := rpA_cons.mp h
    exact .cons p (RpA.append t k)
theorem RpA.take : ∀ {ds : List PD} {vs : List V} (n : Nat), RpA C H ds vs → RpA C H (ds.take n) (vs.take n)
  | _, _, 0, _ => .nil
  | [], _, _ + 1, h => by rw [rpA_nil.mp h]; exact .nil
  | d :: ds, _, n + 1, h => by
    obtain ⟨v, r, rfl, p, t⟩ := rpA_cons.mp h
    exact .cons p (RpA.take n t)
theorem RpA.drop : ∀ {ds : List PD} {vs : List V} (n : Nat), RpA C H ds vs → RpA C H (ds.drop n) (vs.drop n)
  | _, _, 0, h => h
  | [], _, _ + 1, h => by rw [rpA_nil.mp h]; exact .nil
  | d :: ds, _, n + 1, h => by
    obtain ⟨v, r, rfl, p, t⟩ := rpA_cons.mp h
    exact RpA.drop n t
theorem RpA.set : ∀ {ds : List PD} {vs : List V} {d : PD} {v : V} (n : Nat), RpA C H ds vs → Rp C H d v → RpA C H (ds.set n d) (vs.set n v)
  | [], _, _, _, _, h, _ => by rw [rpA_nil.mp h]; exact .nil
  | x :: ds, _, _, _, 0, h, k => by
    obtain ⟨v, r, rfl, p, t⟩ := rpA_cons.mp h
    exact .cons k t
  | x :: ds, _, _, _, n + 1, h, k => by
    obtain ⟨v, r, rfl, p, t⟩ := rpA_cons.mp h
    exact .cons p (RpA.set n t k)
theorem RpA.dropLast : ∀ {ds : List PD} {vs : List V}, RpA C H ds vs → RpA C H ds.dropLast vs.dropLast := by
  intro ds vs h
  rw [List.dropLast_eq_take, List.dropLast_eq_take, ← h.length]
  exact h.take _
theorem RpA.ints : ∀ {ns : List Int} {vs : List V}, RpA C H (ns.map PyData.int) vs → vs = ns.map V.int
  | [], _, h => by rw [List.map_nil] at h; rw [rpA_nil.mp h]; rfl
  | n :: ns, _, h => by
    rw [List.map_cons] at h
    obtain ⟨v, r, rfl, p, t⟩ := rpA_cons.mp h
    rw [rp_int.mp p, RpA.ints t]; rfl
theorem RpA.of_ints : ∀ {ns : List Int}, RpA C H (ns.map PyData.int) (ns.map V.int)
  | [] => .nil
  | n :: ns => .cons (rp_int.mpr rfl) RpA.of_ints
mutual
theorem Rp.dp : ∀ (d : PD) {v : V}, Rp C H d v → Dp C.K H v d
  | .none, _, h => by rw [rp_none.mp h]; exact .non
  | .bool _, _, h => by rw [rp_bool.mp h]; exact .bl _
  | .int _, _, h => by rw [rp_int.mp h]; exact .int _
  | .str _, _, h => by rw [rp_str.mp h]; exact .str _
  | .list ds, _, h => by
    obtain ⟨a, xs, rfl, f, r⟩ := rp_list.mp h
    exact .lst f.sq (RpA.dp ds r)
  | .tuple ds, _, h => by
    obtain ⟨a, xs, rfl, f, r⟩ := rp_tuple.mp h
    exact .tup f (RpA.dp ds r)
  | .dict _, _, h => (rp_dict h).elim
theorem RpA.dp : ∀ (ds : List PD) {vs : List V}, RpA C H ds vs → DpAll C.K H vs ds
  | [], _, h => by rw [rpA_nil.mp h]; exact .nil
  | d :: ds, _, h => by
    obtain ⟨v, r, rfl, p, t⟩ := rpA_cons.mp h
    exact .cons (Rp.dp d p) (RpA.dp ds t)
end
end

/-! ### the store -/
/-- where the store's objects stand; all addresses that are written -/
structure Ph where
  adr : List Addr
  mu : List Addr
structure Ext (φ : Ph) (H : Hp) (φ' : Ph) (H' : Hp) : Prop where
  pre : ∀ (n : Nat) a, φ.adr[n]? = some a → φ'.adr[n]? = some a
  sub : ∀ a ∈ φ.mu, a ∈ φ'.mu
  new : ∀ a ∈ φ'.mu, a ∈ φ.mu ∨ H a = none
  keep : ∀ a o, H a = some o → a ∉ φ.mu → H' a = some o
  kp : Kp H H'
theorem Ext.refl (φ : Ph) (H : Hp) : Ext φ H φ H := ⟨fun _ _ h => h, fun _ h => h, fun _ h => .inl h, fun _ _ h _ => h, .refl H⟩
theorem Ext.trans {φ φ1 φ2 : Ph} {H H1 H2 : Hp} (a : Ext φ H φ1 H1) (b : Ext φ1 H1 φ2 H2) : Ext φ H φ2 H2 := by
  refine ⟨fun n x h => b.pre n x (a.pre n x h), fun x h => b.sub x (a.sub x h), fun x h => ?_, fun x o h hm => ?_, a.kp.trans b.kp⟩
  · rcases b.new x h with q | q
    · exact a.new x q
    · by_cases hm : x ∈ φ.mu
      · exact .inl hm
      · cases e : H x with
        | none => exact .inr rfl
        | some o => rw [a.keep x o e hm] at q; cases q
  · refine b.keep x o (a.keep x o h hm) fun q => ?_
    rcases a.new x q with z | z
    · exact hm z
    · rw [h] at z; cases z
/-- a new object -/
theorem Ext.laid {φ : Ph} {H : Hp} {a : Addr} {o : HO} (n : H a = none) : Ext φ H φ (upd H a o) :=
  ⟨fun _ _ h => h, fun _ h => h, fun _ h => .inl h, fun b u h _ => by rw [upd_ne (ne_of_none h n)]; exact h,
    ⟨fun b xs h => by rw [upd_ne (ne_of_none h n)]; exact h, fun b p u h => by rw [upd_ne (ne_of_none h n)]; exact h⟩⟩

def GOk (C : C0) (H : Hp) (a : Addr) : GO → Prop
  | .lst ds => ∃ xs, H a = some (.lst xs) ∧ RpA C H ds xs
structure RelG (C : C0) (φ : Ph) (G : Sto) (H : Hp) : Prop where
  len : φ.adr.length = G.length
  nod : φ.adr.Nodup
  inm : ∀ a ∈ φ.adr, a ∈ φ.mu
  trk : ∀ a ∈ φ.mu, ∃ o, H a = some o ∧ Mut (some o)
  obj : ∀ (n : Nat) o, G[n]? = some o → ∃ a, φ.adr[n]? = some a ∧ GOk C H a o

def RW (C : C0) (φ : Ph) (H : Hp) : W → V → Prop
  | .py d, v => Rp C H d v
  | .obj n, v => ∃ a, φ.adr[n]? = some a ∧ v = .ref a
  | .brw ds, v => ∃ a xs, v = .ref a ∧ Rd H a (.lst xs) ∧ a ∉ φ.mu ∧ RpA C H ds xs
  | .scr ds, v => ∃ a xs, v = .ref a ∧ (FzL H a xs ∨ KL C.K a xs) ∧ RpA C H ds xs
theorem rw_py {C : C0} {φ : Ph} {H : Hp} {d : PD} {v : V} : RW C φ H (.py d) v ↔ Rp C H d v := Iff.rfl
theorem rw_none {C : C0} {φ : Ph} {H : Hp} {v : V} : RW C φ H (.py .none) v ↔ v = .non := rp_none (C := C) (H := H)
theorem rw_bool {C : C0} {φ : Ph} {H : Hp} {b : Bool} {v : V} : RW C φ H (.py (.bool b)) v ↔ v = .bl b := rp_bool (C := C) (H := H)
theorem rw_int {C : C0} {φ : Ph} {H : Hp} {i : Int} {v : V} : RW C φ H (.py (.int i)) v ↔ v = .int i := rp_int (C := C) (H := H)
theorem rw_str {C : C0} {φ : Ph} {H : Hp} {x : Str} {v : V} : RW C φ H (.py (.str x)) v ↔ v = .str x := rp_str (C := C) (H := H)
theorem rw_list {C : C0} {φ : Ph} {H : Hp} {ds : List PD} {v : V} : RW C φ H (.py (.list ds)) v ↔ ∃ a xs, v = .ref a ∧ FzL H a xs ∧ RpA C H ds xs := rp_list (C := C) (H := H)
theorem rw_tuple {C : C0} {φ : Ph} {H : Hp} {ds : List PD} {v : V} : RW C φ H (.py (.tuple ds)) v ↔ ∃ a xs, v = .ref a ∧ SqT C.K H a xs ∧ RpA C H ds xs := rp_tuple (C := C) (H := H)
/-- it may be kept -/
def stab : W → Bool
  | .py _ => true
  | .obj _ => true
  | .brw _ => false
  | .scr _ => true
theorem RW.ext {C : C0} {φ φ' : Ph} {H H' : Hp} (x : Ext φ H φ' H') {w : W} {v : V} (h : RW C φ H w v) : RW C φ' H' w v := by
  cases w with
  | py d => exact Rp.kp x.kp d h
  | obj n => obtain ⟨a, e, rfl⟩ := h; exact ⟨a, x.pre _ _ e, rfl⟩
  | scr ds =>
    obtain ⟨a, xs, rfl, r, q⟩ := h
    exact ⟨a, xs, rfl, r.imp (fun z => z.kp x.kp) id, RpA.kp x.kp _ q⟩
  | brw ds =>
    obtain ⟨a, xs, rfl, r, nm, q⟩ := h
    have tr : ∃ o, H a = some o := by rcases r with r | ⟨o, r⟩ <;> exact ⟨_, r⟩
    refine ⟨a, xs, rfl, ?_, fun z => ?_, RpA.kp x.kp _ q⟩
    · rcases r with r | ⟨o, r⟩
      · exact .inl (x.keep _ _ r nm)
      · exact .inr ⟨o, x.kp.frz _ _ _ r⟩
    · obtain ⟨o, e⟩ := tr
      rcases x.new a z with z | z
      · exact nm z
      · rw [e] at z; cases z
/-- a value that may be kept lasts while what never changes stays -/
theorem RW.kp {C : C0} {φ φ' : Ph} {H H' : Hp} (k : Kp H H') (p : ∀ (n : Nat) a, φ.adr[n]? = some a → φ'.adr[n]? = some a) {w : W} {v : V} (s : stab w = true) (h : RW C φ H w v) : RW C φ' H' w v := by
  cases w with
  | py d => exact Rp.kp k d h
  | obj n => obtain ⟨a, e, rfl⟩ := h; exact ⟨a, p _ _ e, rfl⟩
  | brw ds => cases s
  | scr ds =>
    obtain ⟨a, xs, rfl, r, q⟩ := h
    exact ⟨a, xs, rfl, r.imp (fun z => z.kp k) id, RpA.kp k _ q⟩
def RWA (C : C0) (φ : Ph) (H : Hp) : List W → List V → Prop
  | [], vs => vs = []
  | w :: ws, vs => ∃ v r, vs = v :: r ∧ RW C φ H w v ∧ RWA C φ H ws r
theorem RWA.ext {C : C0} {φ φ' : Ph} {H H' : Hp} (x : Ext φ H φ' H') : ∀ {ws : List W} {vs : List V}, RWA C φ H ws vs → RWA C φ' H' ws vs
  | [], _, h => h
  | w :: ws, _, h => by
    obtain ⟨v, r, e, h1, h2⟩ := h
    exact ⟨v, r, e, h1.ext x, RWA.ext x h2⟩
theorem RWA.length {C : C0} {φ : Ph} {H : Hp} : ∀ {ws : List W} {vs : List V}, RWA C φ H ws vs → ws.length = vs.length
  | [], _, h => by rw [show _ = [] from h]; rfl
  | w :: ws, _, h => by
    obtain ⟨v, r, rfl, h1, h2⟩ := h
    simp only [List.length_cons, RWA.length h2]

/-! ### the frame -/
structure RelE (C : C0) (φ : Ph) (ρ : Fm) (σ : L2.St) (H : Hp) : Prop where
  len : ρ.length = σ.length
  val : ∀ (i : Nat) w, ρ[i]? = some (.val w) → stab w = true ∧ ∃ v, σ[i]? = some (some v) ∧ RW C φ H w v
  own : ∀ (i : Nat) ds, ρ[i]? = some (.own ds) → ∃ a xs, σ[i]? = some (some (.ref a)) ∧ H a = some (.lst xs) ∧ RpA C H ds xs ∧ a ∉ φ.mu
  sep : ∀ (i j : Nat) di dj a, ρ[i]? = some (.own di) → ρ[j]? = some (.own dj) → σ[i]? = some (some (.ref a)) → σ[j]? = some (some (.ref a)) → i = j
theorem RelE.ext {C : C0} {φ φ' : Ph} {H H' : Hp} {ρ : Fm} {σ : L2.St} (x : Ext φ H φ' H') (h : RelE C φ ρ σ H) : RelE C φ' ρ σ H' := by
  refine ⟨h.len, fun i w e => ?_, fun i ds e => ?_, h.sep⟩
  · obtain ⟨s, v, e1, r⟩ := h.val i w e
    exact ⟨s, v, e1, r.ext x⟩
  · obtain ⟨a, xs, e1, e2, r, nm⟩ := h.own i ds e
    refine ⟨a, xs, e1, x.keep _ _ e2 nm, RpA.kp x.kp _ r, fun z => ?_⟩
    rcases x.new a z with z | z
    · exact nm z
    · rw [e2] at z; cases z

/-! ### the judgements -/
/-- what is wanted of an exception: it, the frame, the store, where all stands -/
abbrev EW := Exn → Fm → Sto → Ph → L2.St → Hp → Prop
abbrev EW0 : EW := fun _ _ _ _ _ _ => False
def endsE {α : Type} (C : C0) (EE : EW) (φ : Ph) (ρ : Fm) (σ : L2.St) (H : Hp) (K : α → Sto → Ph → Hp → Prop) : R α → Prop
  | .ok a G' => ∀ φ' H', Ext φ H φ' H' → RelG C φ' G' H' → K a G' φ' H'
  | .exc x G' => ∀ φ' H', Ext φ H φ' H' → RelG C φ' G' H' → EE x ρ G' φ' σ H'
  | .bad => False
def tM (C : C0) (EE : EW) (den : Fm → M W) : TE := fun σ H Q => ∃ φ ρ G, RelG C φ G H ∧ RelE C φ ρ σ H ∧
  endsE C EE φ ρ σ H (fun w _ φ' H' => ∀ v, RW C φ' H' w v → Q v H') (den ρ G)
def tMT (C : C0) (EE : EW) (den : Fm → M Bool) : TT := fun σ H Q => ∃ φ ρ G, RelG C φ G H ∧ RelE C φ ρ σ H ∧
  endsE C EE φ ρ σ H (fun b _ _ H' => Q b H') (den ρ G)
def tMA (C : C0) (EE : EW) (den : Fm → M (List W)) : TA := fun σ H Q => ∃ φ ρ G, RelG C φ G H ∧ RelE C φ ρ σ H ∧
  endsE C EE φ ρ σ H (fun ws _ φ' H' => ∀ vs, RWA C φ' H' ws vs → Q vs H') (den ρ G)
/-- a new list -/
def tMF (C : C0) (EE : EW) (den : Fm → M (List PD)) : TE := fun σ H Q => ∃ φ ρ G, RelG C φ G H ∧ RelE C φ ρ σ H ∧
  endsE C EE φ ρ σ H (fun ds _ φ' H' => ∀ a xs, H a = none → H' a = some (.lst xs) → a ∉ φ'.mu → RpA C H' ds xs → Q (.ref a) H') (den ρ G)
def ME (X : Cx) (EE : EW) (e : Expr) (den : Fm → M W) : Prop := PE X e (tM (c0 X) EE den)
def MT (X : Cx) (EE : EW) (e : Expr) (den : Fm → M Bool) : Prop := PT X e (tMT (c0 X) EE den)
def MA (X : Cx) (EE : EW) (es : List Expr) (den : Fm → M (List W)) : Prop := PA X es (tMA (c0 X) EE den)
def MF (X : Cx) (EE : EW) (e : Expr) (den : Fm → M (List PD)) : Prop := PE X e (tMF (c0 X) EE den)
theorem PE.weak {X : Cx} {e : Expr} {t t' : TE} (h : PE X e t) (w : ∀ σ H Q, t' σ H Q → t σ H Q) : PE X e t' := ⟨fun pins s σ H Q I q => h.run pins s σ H Q I (w _ _ _ q)⟩
theorem PT.weak {X : Cx} {e : Expr} {t t' : TT} (h : PT X e t) (w : ∀ σ H Q, t' σ H Q → t σ H Q) : PT X e t' := ⟨fun pins s σ H Q I q => h.run pins s σ H Q I (w _ _ _ q)⟩
theorem PA.weak {X : Cx} {e : List Expr} {t t' : TA} (h : PA X e t) (w : ∀ σ H Q, t' σ H Q → t σ H Q) : PA X e t' := ⟨fun p pins s σ H Q I q => h.run p pins s σ H Q I (w _ _ _ q)⟩
theorem PS.weak {X : Cx} {e : Stmt} {t t' : TS} (h : PS X e t) (w : ∀ D σ H, t' D σ H → t D σ H) : PS X e t' := ⟨fun pins s σ H D I q => h.run pins s σ H D I (w _ _ _ q)⟩
theorem PSs.weak {X : Cx} {e : List Stmt} {t t' : TS} (h : PSs X e t) (w : ∀ D σ H, t' D σ H → t D σ H) : PSs X e t' := ⟨fun pins s σ H D I q => h.run pins s σ H D I (w _ _ _ q)⟩

/-- one part, then the rest -/
theorem endsE.bnd {α β : Type} {C : C0} {EE : EW} {φ : Ph} {ρ : Fm} {σ : L2.St} {H : Hp} {G : Sto} {m : M α} {f : α → M β} {K : β → Sto → Ph → Hp → Prop}
    (h : endsE C EE φ ρ σ H K (DL.bnd m f G)) : endsE C EE φ ρ σ H (fun a G1 φ1 H1 => endsE C EE φ1 ρ σ H1 K (f a G1)) (m G) := by
  unfold DL.bnd at h
  cases e : m G with
  | bad => rw [e] at h; exact h
  | exc x G' => rw [e] at h; exact h
  | ok a G1 =>
    rw [e] at h
    intro φ1 H1 x1 g1
    show endsE C EE φ1 ρ σ H1 K (f a G1)
    replace h : endsE C EE φ ρ σ H K (f a G1) := h
    cases e2 : f a G1 with
    | bad => rw [e2] at h; exact h
    | exc x G' => rw [e2] at h; exact fun φ2 H2 x2 g2 => h φ2 H2 (x1.trans x2) g2
    | ok b G2 => rw [e2] at h; exact fun φ2 H2 x2 g2 => h φ2 H2 (x1.trans x2) g2
theorem endsE.mono {α : Type} {C : C0} {EE : EW} {φ : Ph} {ρ : Fm} {σ : L2.St} {H : Hp} {K K' : α → Sto → Ph → Hp → Prop} {r : R α} (h : endsE C EE φ ρ σ H K r)
    (k : ∀ a G' φ' H', Ext φ H φ' H' → RelG C φ' G' H' → K a G' φ' H' → K' a G' φ' H') : endsE C EE φ ρ σ H K' r := by
  cases r with
  | bad => exact h
  | exc x G' => exact h
  | ok a G' => exact fun φ' H' x g => k a G' φ' H' x g (h φ' H' x g)

/-! ### a list that is not written any more -/
section
variable {X : Cx} {pins : List (Addr × Obj)} {σ : L2.St} {H : Hp} {s : Shared} {a : Addr} {xs : List V}
theorem Inv.freeze (I : Inv X pins σ H s) (h : H a = some (.lst xs)) : ∃ o, Inv X pins σ (upd H a (.frz o (.lst xs))) s := by
  obtain ⟨z, its, n, r, e⟩ := I.hok a _ h
  refine ⟨{ cls := .type "list", data := .seq its.toArray n }, ⟨I.ok, I.os, I.bare, ⟨fun b o q m f x => I.base.keep b o q m f x, fun b o q m f x => I.base.slot b o q m f x, fun b o q m x => ?_, fun b o q x => I.base.there b o q x, fun b ys q => ?_, fun b o u q => ?_, fun b ps q => ?_⟩, I.loc, I.cell, ?_, fun x c q => ?_, fun p hp => ?_, fun b o q => ?_, I.len⟩⟩
  · have z1 := I.base.free b o q m x
    rw [upd_ne (fun z => by rw [z] at z1; rw [h] at z1; cases z1)]
    exact z1
  · have z1 := I.base.tups b ys q
    rw [upd_ne (fun z => by rw [z] at z1; rw [h] at z1; cases z1)]
    exact z1
  · have z1 := I.base.frzs b o u q
    rw [upd_ne (fun z => by rw [z] at z1; rw [h] at z1; cases z1)]
    exact z1
  · obtain ⟨more, z1⟩ := I.base.tbls b ps q
    refine ⟨more, ?_⟩
    rw [upd_ne (fun z => by rw [z] at z1; rw [h] at z1; cases z1)]
    exact z1
  · rw [upd_ne (fun z => by have z1 := I.free; rw [z] at z1; rw [h] at z1; cases z1)]
    exact I.free
  · rw [upd_ne (fun z => by have z1 := I.freeC x c q; rw [z] at z1; rw [h] at z1; cases z1)]
    exact I.freeC x c q
  · obtain ⟨e1, n1, r1⟩ := I.pin p hp
    refine ⟨e1, ?_, r1⟩
    rw [upd_ne (fun z => by rw [z] at n1; rw [h] at n1; cases n1)]
    exact n1
  · by_cases hb : b = a
    · subst hb
      rw [upd_same] at q
      cases q
      exact ⟨e, z, its, n, r, e⟩
    · rw [upd_ne hb] at q
      refine (I.hok b o q).stay (fun c v _ z => z) (fun c z => ?_) fun c ys z => ?_
      · rw [upd_ne (fun y => by rw [y] at z; rw [h] at z; cases z)]; exact z
      · rw [upd_ne (fun y => by rw [y] at z; rw [h] at z; cases z)]; exact z
end
/-- the wish, or the wish where the list that was made is not written any more -/
def fz (Q : VK) : VK := fun v H => Q v H ∨ ∃ a xs, v = .ref a ∧ H a = some (.lst xs) ∧ ∀ o, Q v (upd H a (.frz o (.lst xs)))
theorem fz_ep {X : Cx} {pins : List (Addr × Obj)} {σ : L2.St} {Q : VK} {u : Value} {s : Shared} (h : EP X pins σ (fz Q) u s) : EP X pins σ Q u s := by
  obtain ⟨v, H', I, r, q⟩ := h
  rcases q with q | ⟨a, xs, rfl, e, q⟩
  · exact ⟨v, H', I, r, q⟩
  · obtain ⟨o, I2⟩ := DL.Inv.freeze I e
    exact ⟨_, _, I2, r, q o⟩
theorem PE.fz {X : Cx} {e : Expr} {t : TE} (h : PE X e t) : PE X e (fun σ H Q => t σ H (DL.fz Q)) :=
  ⟨fun pins s σ H Q I q => thn (h.run pins s σ H _ I q) fun _ _ z => fz_ep z⟩
theorem Ext.frz {φ φ' : Ph} {H H' : Hp} {a : Addr} {xs : List V} {o : Obj} (x : Ext φ H φ' H') (n : H a = none) (e : H' a = some (.lst xs)) : Ext φ H φ' (upd H' a (.frz o (.lst xs))) :=
  ⟨x.pre, x.sub, x.new, fun b u h hm => by rw [upd_ne (ne_of_none h n)]; exact x.keep b u h hm,
    ⟨fun b ys h => by rw [upd_ne (ne_of_none h n)]; exact x.kp.tup b ys h, fun b p u h => by rw [upd_ne (ne_of_none h n)]; exact x.kp.frz b p u h⟩⟩
/-- freezing keeps what never changes -/
theorem kp_frz {H : Hp} {a : Addr} {xs : List V} {o : Obj} (e : H a = some (.lst xs)) : Kp H (upd H a (.frz o (.lst xs))) :=
  ⟨fun b ys h => by rw [upd_ne (fun z => by rw [z, e] at h; cases h)]; exact h, fun b p u h => by rw [upd_ne (fun z => by rw [z, e] at h; cases h)]; exact h⟩
theorem RelG.kp {C : C0} {φ : Ph} {G : Sto} {H H' : Hp} (k : Kp H H') (m : ∀ a o, a ∈ φ.mu → H a = some o → H' a = some o) (g : RelG C φ G H) : RelG C φ G H' := by
  refine ⟨g.len, g.nod, g.inm, fun a ha => ?_, fun n o e => ?_⟩
  · obtain ⟨o, h1, h2⟩ := g.trk a ha
    exact ⟨o, m a o ha h1, h2⟩
  · obtain ⟨a, e1, q⟩ := g.obj n o e
    refine ⟨a, e1, ?_⟩
    cases o with
    | lst ds =>
      obtain ⟨xs, h1, r⟩ := q
      exact ⟨xs, m a _ (g.inm a (List.mem_of_getElem? e1)) h1, RpA.kp k _ r⟩
/-- a new object beside the store -/
theorem RelG.laid {C : C0} {φ : Ph} {G : Sto} {H : Hp} {a : Addr} {o : HO} (n : H a = none) (g : RelG C φ G H) : RelG C φ G (upd H a o) :=
  g.kp (Ext.laid (φ := φ) n).kp fun b u _ h => by rw [upd_ne (ne_of_none h n)]; exact h
theorem RelG.new_not {C : C0} {φ : Ph} {G : Sto} {H : Hp} {a : Addr} (g : RelG C φ G H) (n : H a = none) : a ∉ φ.mu := fun h => by
  obtain ⟨o, e, _⟩ := g.trk a h
  rw [n] at e; cases e
end DL

set_option maxHeartbeats 1000000
/-! DL2: operations on values. -/
namespace DL
open PySem PySem.Spec PyProof.Rows L2

/-- a list's items as they stand -/
def lstOf (a : W) (G : Sto) : Option (List PD) := match a with
  | .py (.list ds) => some ds
  | .brw ds => some ds
  | .obj n => match G[n]? with
    | some (.lst ds) => some ds
    | none => none
  | _ => none
def tupOf (a : W) : Option (List PD) := match a with
  | .py (.tuple ds) => some ds
  | _ => none
def pdOf (a : W) (G : Sto) : Option PD := match a with
  | .py d => some d
  | .brw ds => some (.list ds)
  | .obj n => match G[n]? with
    | some (.lst ds) => some (.list ds)
    | none => none
  | .scr _ => none
section
variable {C : C0} {φ : Ph} {G : Sto} {H : Hp} {a : W} {v : V} {ds : List PD} {d : PD}
theorem lstOf_rd (g : RelG C φ G H) (r : RW C φ H a v) (h : lstOf a G = some ds) : ∃ p xs, v = .ref p ∧ Rd H p (.lst xs) ∧ RpA C H ds xs := by
  unfold lstOf at h
  split at h
  · cases h
    obtain ⟨p, xs, e, f, q⟩ := rw_list.mp r
    exact ⟨p, xs, e, f.rd, q⟩
  · cases h
    obtain ⟨p, xs, e, f, _, q⟩ := r
    exact ⟨p, xs, e, f, q⟩
  · rename_i n
    split at h
    · rename_i ds' e1
      cases h
      obtain ⟨p, e2, rfl⟩ := r
      obtain ⟨p', e3, xs, e4, q⟩ := g.obj n _ e1
      rw [e2] at e3; cases e3
      exact ⟨p, xs, rfl, .inl e4, q⟩
    · cases h
  · cases h
theorem tupOf_sq (r : RW C φ H a v) (h : tupOf a = some ds) : ∃ p xs, v = .ref p ∧ SqT C.K H p xs ∧ RpA C H ds xs := by
  unfold tupOf at h
  split at h
  · cases h
    exact rw_tuple.mp r
  · cases h
theorem pdOf_dp (g : RelG C φ G H) (r : RW C φ H a v) (h : pdOf a G = some d) : Dp C.K H v d := by
  unfold pdOf at h
  split at h
  · cases h
    exact Rp.dp _ r
  · cases h
    obtain ⟨p, xs, rfl, f, _, q⟩ := r
    exact .lst (.inl f) (RpA.dp _ q)
  · rename_i n
    split at h
    · rename_i ds' e1
      cases h
      obtain ⟨p, e2, rfl⟩ := r
      obtain ⟨p', e3, xs, e4, q⟩ := g.obj n _ e1
      rw [e2] at e3; cases e3
      exact .lst (.inl (.inl e4)) (RpA.dp _ q)
    · cases h
  · cases h
end

/-- what a rule by values is worth -/
abbrev Wish (C : C0) (φ : Ph) (H : Hp) (G : Sto) (w : W) (Q : VK) : Prop := ∀ φ' H', Ext φ H φ' H' → RelG C φ' G H' → ∀ v, RW C φ' H' w v → Q v H'
def Lift2 (C : C0) (r : R2) (F : W → W → Sto → Option W) : Prop :=
  ∀ (φ : Ph) (G : Sto) (H : Hp) (x y : V) (a b c : W) (Q : VK), RelG C φ G H → RW C φ H a x → RW C φ H b y → F a b G = some c → Wish C φ H G c Q → r x y H (fz Q)
def Lift1 (C : C0) (r : V → Hp → VK → Prop) (F : W → Sto → Option W) : Prop :=
  ∀ (φ : Ph) (G : Sto) (H : Hp) (x : V) (a c : W) (Q : VK), RelG C φ G H → RW C φ H a x → F a G = some c → Wish C φ H G c Q → r x H (fz Q)
def LiftN (C : C0) (r : List V → Hp → VK → Prop) (F : List W → Sto → Option W) : Prop :=
  ∀ (φ : Ph) (G : Sto) (H : Hp) (xs : List V) (as : List W) (c : W) (Q : VK), RelG C φ G H → RWA C φ H as xs → F as G = some c → Wish C φ H G c Q → r xs H (fz Q)
section
variable {C : C0} {φ : Ph} {G : Sto} {H : Hp} {Q : VK} {c : W} {v : V} {xs : List V} {ds : List PD} {p : Addr}
theorem Wish.now (k : Wish C φ H G c Q) (g : RelG C φ G H) (r : RW C φ H c v) : fz Q v H := .inl (k φ H (.refl φ H) g v r)
theorem Wish.tup (k : Wish C φ H G (.py (.tuple ds)) Q) (g : RelG C φ G H) (n : H p = none) (r : RpA C H ds xs) : fz Q (.ref p) (upd H p (.tup xs)) :=
  .inl (k φ _ (.laid n) (g.laid n) _ (rw_tuple.mpr ⟨p, xs, rfl, .of upd_same, RpA.kp (Ext.laid (φ := φ) n).kp _ r⟩))
theorem Wish.lst (k : Wish C φ H G (.py (.list ds)) Q) (g : RelG C φ G H) (n : H p = none) (r : RpA C H ds xs) : fz Q (.ref p) (upd H p (.lst xs)) :=
  .inr ⟨p, xs, rfl, upd_same, fun o => by
    rw [upd_upd]
    exact k φ _ (.laid n) (g.laid n) _ (rw_list.mpr ⟨p, xs, rfl, ⟨o, upd_same⟩, RpA.kp (Ext.laid (φ := φ) n).kp _ r⟩)⟩
end

section
variable {X : Cx} {EE : EW} {a b c : Expr} {da db dc : Fm → M W} {pos : Pos}
def dOp (F : W → W → Sto → Option W) (a b : Fm → M W) : Fm → M W := fun ρ => bnd (a ρ) fun x => bnd (b ρ) fun y => lft (F x y)
def dUn (F : W → Sto → Option W) (a : Fm → M W) : Fm → M W := fun ρ => bnd (a ρ) fun x => lft (F x)
theorem endsE.lft {α : Type} {C : C0} {EE : EW} {φ : Ph} {ρ : Fm} {σ : L2.St} {H : Hp} {G : Sto} {o : Sto → Option α} {K : α → Sto → Ph → Hp → Prop}
    (h : endsE C EE φ ρ σ H K (DL.lft o G)) : ∃ a, o G = some a ∧ ∀ φ' H', Ext φ H φ' H' → RelG C φ' G H' → K a G φ' H' := by
  unfold DL.lft at h
  cases e : o G with
  | none => rw [e] at h; exact h.elim
  | some a => rw [e] at h; exact ⟨a, rfl, h⟩
/-- two parts, then an operation by values -/
theorem op2_weak {C : C0} {r : R2} {F : W → W → Sto → Option W} (hl : Lift2 C r F) {σ : L2.St} {H : Hp} {Q : VK} (h : tM C EE (dOp F da db) σ H Q) : tOp r (tM C EE da) (tM C EE db) σ H (fz Q) := by
  obtain ⟨φ, ρ, G, g, e, h⟩ := h
  refine ⟨φ, ρ, G, g, e, (endsE.bnd h).mono fun x G1 φ1 H1 x1 g1 k v r1 => ⟨φ1, ρ, G1, g1, e.ext x1, (endsE.bnd k).mono fun y G2 φ2 H2 x2 g2 k2 u r2 => ?_⟩⟩
  obtain ⟨w, hw, k3⟩ := endsE.lft k2
  exact hl φ2 G2 H2 v u x y w Q g2 (r1.ext x2) r2 hw k3
theorem me_op {op : Operator} {r : R2} {F : W → W → Sto → Option W} (ho : OpR X (binaryOp op) r) (hl : Lift2 (c0 X) r F) (ha : ME X EE a da) (hb : ME X EE b db) : ME X EE (.BinOp a op b pos) (dOp F da db) :=
  PE.weak (PE.fz (pe_op ho ha hb)) fun _ _ _ h => op2_weak hl h
theorem me_cmp {op : CmpOp} {r : R2} {F : W → W → Sto → Option W} (ho : OpR X (compareOp op) r) (hl : Lift2 (c0 X) r F) (ha : ME X EE a da) (hb : ME X EE b db) (hm : behindInMarks op b = false) : ME X EE (.Compare a [op] [b] pos) (dOp F da db) :=
  PE.weak (PE.fz (pe_cmpR ho ha hb hm)) fun _ _ _ h => op2_weak hl h
theorem me_un {op : UnaryOp} {r : V → Hp → VK → Prop} {F : W → Sto → Option W} (ho : UnR X (unaryOp op) r) (hl : Lift1 (c0 X) r F) (ha : ME X EE a da) : ME X EE (.UnaryOp op a pos) (dUn F da) := by
  refine PE.weak (PE.fz (pe_un ho ha)) fun σ H Q h => ?_
  obtain ⟨φ, ρ, G, g, e, h⟩ := h
  refine ⟨φ, ρ, G, g, e, (endsE.bnd h).mono fun x G1 φ1 H1 x1 g1 k v r1 => ?_⟩
  obtain ⟨w, hw, k3⟩ := endsE.lft k
  exact hl φ1 G1 H1 v x w Q g1 r1 hw k3
/-- a op1 b op2 c -/
def dChain (F F' : W → W → Sto → Option W) (a b c : Fm → M W) : Fm → M W := fun ρ => bnd (a ρ) fun x => bnd (b ρ) fun y => bnd (lft (F x y)) fun z => match z with
  | .py (.bool true) => bnd (c ρ) fun w => lft (F' y w)
  | .py (.bool false) => ret (.py (.bool false))
  | _ => fun _ => .bad
theorem chain_weak {C : C0} {r r' : R2} {F F' : W → W → Sto → Option W} (hl : Lift2 C r F) (hl' : Lift2 C r' F') {σ : L2.St} {H : Hp} {Q : VK} (h : tM C EE (dChain F F' da db dc) σ H Q) :
    tChain (fun x y H Q => r x y H (fz Q)) (fun x y H Q => r' x y H (fz Q)) (tM C EE da) (tM C EE db) (tM C EE dc) σ H Q := by
  obtain ⟨φ, ρ, G, g, e, h⟩ := h
  refine ⟨φ, ρ, G, g, e, (endsE.bnd h).mono fun x G1 φ1 H1 x1 g1 k v r1 => ⟨φ1, ρ, G1, g1, e.ext x1, (endsE.bnd k).mono fun y G2 φ2 H2 x2 g2 k2 u r2 => ?_⟩⟩
  obtain ⟨w, hw, k3⟩ := endsE.lft (endsE.bnd k2)
  refine hl φ2 G2 H2 v u x y w _ g2 (r1.ext x2) r2 hw fun φ3 H3 x3 g3 z rz => ?_
  have k4 := k3 φ3 H3 x3 g3
  split at k4
  · rw [rw_bool.mp rz]
    refine ⟨true, rfl, ?_⟩
    rw [if_pos rfl]
    refine ⟨φ3, ρ, G2, g3, ((e.ext x1).ext x2).ext x3, (endsE.bnd k4).mono fun w' G4 φ4 H4 x4 g4 k5 u' r4 => ?_⟩
    obtain ⟨w5, hw5, k6⟩ := endsE.lft k5
    exact hl' φ4 G4 H4 u u' y w' w5 Q g4 ((r2.ext x3).ext x4) r4 hw5 k6
  · rw [rw_bool.mp rz]
    refine ⟨false, rfl, ?_⟩
    rw [if_neg Bool.false_ne_true]
    exact k4 φ3 H3 (.refl _ _) g3 _ (rw_bool.mpr rfl)
  · exact k4.elim
theorem OpR.fz {f : Value → Value → Sem Value} {r : R2} (h : OpR X f r) : OpR X f (fun x y H Q => r x y H (DL.fz Q)) := fun pins s σ H x y v u Q I rx ry q => thn (h pins s σ H x y v u _ I rx ry q) fun _ _ z => fz_ep z
theorem me_chain {op op' : CmpOp} {r r' : R2} {F F' : W → W → Sto → Option W} (ho : OpR X (compareOp op) r) (ho' : OpR X (compareOp op') r') (hl : Lift2 (c0 X) r F) (hl' : Lift2 (c0 X) r' F')
    (ha : ME X EE a da) (hb : ME X EE b db) (hc : ME X EE c dc) (hm : lastMarks [op, op'] [b, c] = false := by with_unfolding_all rfl) : ME X EE (.Compare a [op, op'] [b, c] pos) (dChain F F' da db dc) :=
  PE.weak (pe_chain (DL.OpR.fz ho) (DL.OpR.fz ho') ha hb hc hm) fun _ _ _ h => chain_weak hl hl' h
end

/-! ### int + int, list + list, tuple + tuple, text + text -/
def addW (a b : W) (G : Sto) : Option W := match a, b with
  | .py (.int i), .py (.int j) => some (.py (.int (i + j)))
  | .py (.str x), .py (.str y) => if x.length + y.length ≤ 16777216 then some (.py (.str (x ++ y))) else none
  | .py (.tuple xs), .py (.tuple ys) => if xs.length + ys.length ≤ 16777216 then some (.py (.tuple (xs ++ ys))) else none
  | a, b => match lstOf a G, lstOf b G with
    | some xs, some ys => if xs.length + ys.length ≤ 16777216 then some (.py (.list (xs ++ ys))) else none
    | _, _ => none
theorem Inv.rdM {X : Cx} {pins : List (Addr × Obj)} {σ : L2.St} {H : Hp} {s : Shared} {l : Addr} {xs : List V} (I : Inv X pins σ H s) (hH : Rd H l (.lst xs)) :
    xs.length ≤ sizeLine ∧ ∃ (its : List Value) (n : Nat), Vals xs its ∧ xs.length = its.length ∧ s.heap.get? l = some { cls := .type "list", data := .seq its.toArray n } := by
  obtain ⟨z, its, n, r, e⟩ := hH.ok I.hok
  exact ⟨z, its, n, r, r.length, e⟩
def rCatL : R2 := fun x y H Q => ∃ l b xs zs, x = .ref l ∧ y = .ref b ∧ Rd H l (.lst xs) ∧ Rd H b (.lst zs) ∧ xs.length + zs.length ≤ sizeLine ∧ ∀ p, H p = none → Q (.ref p) (upd H p (.lst (xs ++ zs)))
theorem op_catL {X : Cx} : OpR X (binaryOp .Add) rCatL := by
  intro pins s σ H x y v u Q I rx ry h
  obtain ⟨l, b, xs, zs, rfl, rfl, h1, h2, hz, q⟩ := h
  cases rx
  cases ry
  obtain ⟨_, its, n, r, hl, e⟩ := Inv.rdM I h1
  obtain ⟨_, its2, n2, r2, hl2, e2⟩ := Inv.rdM I h2
  refine PySem.P.add_list e e2 ?_ (by rw [List.size_toArray, List.size_toArray]; omega)
  rw [show its.toArray ++ its2.toArray = (its ++ its2).toArray by simp]
  exact ⟨.ref _, _, I.lnew (t' := s.toks) (r.append r2) (by rw [List.length_append]; omega), rfl, q _ I.fresh⟩
def rAddW (K : PySem.W.Frag) : R2 := fun x y H Q => (∃ i j, x = .int i ∧ y = .int j ∧ Q (.int (i + j)) H) ∨ ((∃ i j, x = .str i ∧ y = .str j ∧ i.length + j.length ≤ sizeLine ∧ Q (.str (i ++ j)) H) ∨ (rCatA K x y H Q ∨ rCatL x y H Q))
theorem op_addW {X : Cx} : OpR X (binaryOp .Add) (rAddW X.K) := op_add.or (op_add_str.or (op_catA.or op_catL))
theorem lift_add {C : C0} : Lift2 C (rAddW C.K) addW := by
  intro φ G H x y a b c Q g ra rb h k
  unfold addW at h
  split at h
  · cases h
    refine .inl ⟨_, _, rw_int.mp ra, rw_int.mp rb, k.now g (rw_int.mpr rfl)⟩
  · split at h
    · rename_i hz
      cases h
      exact .inr (.inl ⟨_, _, rw_str.mp ra, rw_str.mp rb, by rw [sizeLine_eq]; exact hz, k.now g (rw_str.mpr rfl)⟩)
    · cases h
  · split at h
    · rename_i xs ys hz
      cases h
      obtain ⟨p, us, rfl, f1, q1⟩ := rw_tuple.mp ra
      obtain ⟨p2, us2, rfl, f2, q2⟩ := rw_tuple.mp rb
      refine .inr (.inr (.inl ⟨p, p2, us, us2, rfl, rfl, f1, f2, by rw [sizeLine_eq, ← q1.length, ← q2.length]; exact hz, fun e => ?_, fun _ e => ?_, fun _ _ p3 n3 => k.tup g n3 (q1.append q2)⟩))
      · subst e
        have e1 : xs = [] := List.length_eq_zero_iff.mp q1.length
        subst e1
        exact k.now g (rw_tuple.mpr ⟨p2, us2, rfl, f2, by simpa using q2⟩)
      · subst e
        have e1 : ys = [] := List.length_eq_zero_iff.mp q2.length
        subst e1
        exact k.now g (rw_tuple.mpr ⟨p, us, rfl, f1, by simpa using q1⟩)
    · cases h
  · split at h
    · rename_i xs ys e1 e2
      split at h
      · rename_i hz
        cases h
        obtain ⟨p, us, rfl, f1, q1⟩ := lstOf_rd g ra e1
        obtain ⟨p2, us2, rfl, f2, q2⟩ := lstOf_rd g rb e2
        exact .inr (.inr (.inr ⟨p, p2, us, us2, rfl, rfl, f1, f2, by rw [sizeLine_eq, ← q1.length, ← q2.length]; exact hz, fun p3 n3 => k.lst g n3 (q1.append q2)⟩))
      · cases h
    · cases h

/-! ### ints -/
def intsW (F : Int → Int → Option PD) (a b : W) (_ : Sto) : Option W := match a, b with
  | .py (.int i), .py (.int j) => (F i j).map W.py
  | _, _ => none
/-- int op int is an int -/
theorem lift_int {C : C0} {c : Int → Int → Prop} {f : Int → Int → Int} {F : Int → Int → Option PD} (h : ∀ i j d, F i j = some d → c i j ∧ d = .int (f i j)) : Lift2 C (rI c fun i j => .int (f i j)) (intsW F) := by
  intro φ G H x y a b e Q g ra rb he k
  unfold intsW at he
  split at he
  · rename_i i j
    obtain ⟨d, hd, rfl⟩ := Option.map_eq_some_iff.mp he
    obtain ⟨hc, rfl⟩ := h i j d hd
    exact ⟨i, j, rw_int.mp ra, rw_int.mp rb, hc, k.now g (rw_int.mpr rfl)⟩
  · cases he
theorem lift_intb {C : C0} {f : Int → Int → Bool} : Lift2 C (rI0 fun i j => .bl (f i j)) (intsW fun i j => some (.bool (f i j))) := by
  intro φ G H x y a b e Q g ra rb he k
  unfold intsW at he
  split at he
  · rename_i i j
    obtain ⟨d, hd, rfl⟩ := Option.map_eq_some_iff.mp he
    cases hd
    exact ⟨i, j, rw_int.mp ra, rw_int.mp rb, k.now g (rw_bool.mpr rfl)⟩
  · cases he
theorem lift_int0 {C : C0} {f : Int → Int → Int} : Lift2 C (rI0 fun i j => .int (f i j)) (intsW fun i j => some (.int (f i j))) := by
  intro φ G H x y a b e Q g ra rb he k
  unfold intsW at he
  split at he
  · rename_i i j
    obtain ⟨d, hd, rfl⟩ := Option.map_eq_some_iff.mp he
    cases hd
    exact ⟨i, j, rw_int.mp ra, rw_int.mp rb, k.now g (rw_int.mpr rfl)⟩
  · cases he
def subW := intsW fun i j => some (.int (i - j))
theorem lift_sub {C : C0} : Lift2 C (rI0 fun i j => .int (i - j)) subW := lift_int0
/-- one factor below 2^64, or both together not too great -/
def mulOk (i j : Int) : Bool := (decide (-18446744073709551616 < i) && decide (i < 18446744073709551616)) || (decide (-18446744073709551616 < j) && decide (j < 18446744073709551616)) || decide (i.natAbs.log2 + j.natAbs.log2 < 1000000)
def mulI (i j : Int) : Option PD := if mulOk i j = true then some (.int (i * j)) else none
def CMulB (i j : Int) : Prop := CMul i j ∨ CMulW i j
theorem op_mulB {X : Cx} : OpR X (binaryOp .Mult) (rI CMulB fun i j => .int (i * j)) := opI fun _ _ _ _ _ _ _ hc q => mul_int q (hc.elim CMul.ok CMulW.ok)
theorem mulOk_ok {i j : Int} (h : mulOk i j = true) : CMulB i j := by
  unfold mulOk at h
  simp only [Bool.or_eq_true, Bool.and_eq_true, decide_eq_true_eq] at h
  rcases h with (h | h) | h
  · exact .inl (.inl ⟨by omega, by omega⟩)
  · exact .inl (.inr ⟨by omega, by omega⟩)
  · exact .inr h
theorem lift_mulI {C : C0} : Lift2 C (rI CMulB fun i j => .int (i * j)) (intsW mulI) := lift_int fun i j d h => by
  unfold mulI at h
  split at h
  · rename_i hm
    cases h
    exact ⟨mulOk_ok hm, rfl⟩
  · cases h
def divOk (j : Int) : Bool := decide (0 < j) && decide (j.natAbs.log2 < 9000)
def fdivW := intsW fun i j => if divOk j = true then some (.int (i / j)) else none
theorem lift_fdiv {C : C0} : Lift2 C (rI CDivW fun i j => .int (i / j)) fdivW := lift_int fun i j d h => by
  split at h
  · rename_i hm
    cases h
    unfold divOk at hm
    simp only [Bool.and_eq_true, decide_eq_true_eq] at hm
    exact ⟨hm, rfl⟩
  · cases h
def modW := intsW fun i j => if 0 < j then some (.int (i % j)) else none
theorem lift_mod {C : C0} : Lift2 C (rI (fun _ j => 0 < j) fun i j => .int (i % j)) modW := lift_int fun i j d h => by
  split at h
  · rename_i hm
    cases h
    exact ⟨hm, rfl⟩
  · cases h
def powOk (i j : Int) : Bool := decide (0 ≤ j) && decide (j ≤ 1000000) && decide (i.natAbs < 18446744073709551616)
def powW := intsW fun i j => if powOk i j = true then some (.int (i ^ j.toNat)) else none
theorem lift_pow {C : C0} : Lift2 C (rI CPow fun i j => .int (i ^ j.toNat)) powW := lift_int fun i j d h => by
  split at h
  · rename_i hm
    cases h
    unfold powOk at hm
    simp only [Bool.and_eq_true, decide_eq_true_eq] at hm
    exact ⟨⟨hm.1.1, hm.1.2, by have := hm.2; omega⟩, rfl⟩
  · cases h
def negW (a : W) (_ : Sto) : Option W := match a with
  | .py (.int i) => some (.py (.int (-i)))
  | _ => none
theorem lift_neg {C : C0} : Lift1 C (rU fun i => .int (-i)) negW := by
  intro φ G H x a c Q g ra h k
  unfold negW at h
  split at h
  · cases h
    exact ⟨_, rw_int.mp ra, k.now g (rw_int.mpr rfl)⟩
  · cases h

/-! ### comparisons -/
mutual
theorem dp_plain {K : PySem.W.Frag} {H : Hp} : ∀ (d : PD) {v : V}, Dp K H v d → d.plain = true
  | .none, _, _ => rfl
  | .bool _, _, _ => rfl
  | .int _, _, _ => rfl
  | .str _, _, _ => rfl
  | .list ds, _, h => by
    cases h with
    | lst _ q => exact dpA_plain ds q
  | .tuple ds, _, h => by
    cases h with
    | tup _ q => exact dpA_plain ds q
  | .dict _, _, h => nomatch h
theorem dpA_plain {K : PySem.W.Frag} {H : Hp} : ∀ (ds : List PD) {vs : List V}, DpAll K H vs ds → PyData.plainAll ds = true
  | [], _, _ => rfl
  | d :: ds, _, h => by
    cases h with
    | cons q t => exact Bool.and_eq_true_iff.mpr ⟨dp_plain d q, dpA_plain ds t⟩
end
/-- a op b for data -/
def rDat (K : PySem.W.Frag) (n : Nat) (f : PD → PD → Option Bool) : R2 := fun x y H Q => ∃ d e b, Dp K H x d ∧ Dp K H y e ∧ min d.depth e.depth ≤ n ∧ f d e = some b ∧ Q (.bl b) H
theorem op_dat {X : Cx} {op : CmpOp} {n : Nat} {f : PD → PD → Option Bool}
    (h : ∀ (s : Shared) (a b : Value) (d e : PD) (k : Bool) (as bs : List Addr) (Q : Value → Shared → Prop), Reads s.heap a d as → Reads s.heap b e bs → d.plain = true → e.plain = true → min d.depth e.depth ≤ n → f d e = some k → Q (.bool k) s → wpAny (model X.prog X.w) X.A (compareOp op a b) Q X.xe s) :
    OpR X (compareOp op) (rDat X.K n f) := by
  intro pins s σ H x y v u Q I rx ry q
  obtain ⟨d, e, b, hd, he, hn, hf, q⟩ := q
  obtain ⟨as, r1⟩ := Dp.reads I d x v hd rx
  obtain ⟨bs, r2⟩ := Dp.reads I e y u he ry
  exact h s v u d e b as bs _ r1 r2 (dp_plain d hd) (dp_plain e he) hn hf ⟨.bl b, H, I, rfl, q⟩
def datW (n : Nat) (f : PD → PD → Option Bool) (a b : W) (G : Sto) : Option W := match pdOf a G, pdOf b G with
  | some d, some e => if min d.depth e.depth ≤ n then (f d e).map fun b => .py (.bool b) else none
  | _, _ => none
theorem lift_dat {C : C0} {n : Nat} {f : PD → PD → Option Bool} : Lift2 C (rDat C.K n f) (datW n f) := by
  intro φ G H x y a b c Q g ra rb h k
  unfold datW at h
  split at h
  · rename_i d e h1 h2
    split at h
    · rename_i hn
      obtain ⟨b', hb, rfl⟩ := Option.map_eq_some_iff.mp h
      exact ⟨d, e, b', pdOf_dp g ra h1, pdOf_dp g rb h2, hn, hb, k.now g (rw_bool.mpr rfl)⟩
    · cases h
  · cases h
def eqW := datW 60 fun d e => some (PyData.eqv d e)
def neW := datW 60 fun d e => some (!PyData.eqv d e)
theorem op_eqW {X : Cx} (hu : X.A.units + 64 < cLine) : OpR X (compareOp .Eq) (rDat X.K 60 fun d e => some (PyData.eqv d e)) := op_dat fun s a b d e k as bs Q r1 r2 p1 p2 hn hf q => by
  cases hf
  exact SeqAt.eq_plain r1 r2 p1 p2 (by omega) q
theorem op_neW {X : Cx} (hu : X.A.units + 64 < cLine) : OpR X (compareOp .NotEq) (rDat X.K 60 fun d e => some (!PyData.eqv d e)) := op_dat fun s a b d e k as bs Q r1 r2 p1 p2 hn hf q => by
  cases hf
  exact SeqAt.ne_plain r1 r2 p1 p2 (by omega) q
/-- whether it may be less at all -/
def ordOk (d e : PD) : Bool := PySem.W.alike d e && match d with
  | .none => false
  | _ => true
theorem ordOk_ok {d e : PD} (h : ordOk d e = true) : PySem.W.alike d e = true ∧ d ≠ .none := by
  unfold ordOk at h
  rw [Bool.and_eq_true] at h
  refine ⟨h.1, fun z => ?_⟩
  subst z
  exact Bool.false_ne_true h.2
def ltP (d e : PD) : Option Bool := match d, e with
  | .int i, .int j => some (decide (i < j))
  | d, e => if ordOk d e = true then some (PySem.W.dataLt d e) else none
def leP (d e : PD) : Option Bool := match d, e with
  | .int i, .int j => some (decide (i ≤ j))
  | d, e => if ordOk d e = true then some (!PySem.W.dataLt e d) else none
def gtP (d e : PD) : Option Bool := match d, e with
  | .int i, .int j => some (decide (j < i))
  | d, e => if ordOk d e = true then some (PySem.W.dataLt e d) else none
def geP (d e : PD) : Option Bool := match d, e with
  | .int i, .int j => some (decide (j ≤ i))
  | d, e => if ordOk d e = true then some (!PySem.W.dataLt d e) else none

theorem rc_op {X : Cx} {op : CmpOp} {s : Shared} {a b : Value} {k : Bool} {Q : Value → Shared → Prop} (hop : ∀ a b, compareOp op a b = richCompare op a b) (h : SeqAt.RcOp op X.A s a b k) (q : Q (.bool k) s) : wpAny (model X.prog X.w) X.A (compareOp op a b) Q X.xe s := by
  rw [hop]
  exact h X.prog X.w X.xe Q q
theorem int_reads {s : Shared} {a : Value} {i : Int} {as : List Addr} (r : Reads s.heap a (.int i) as) : ∃ t, a = .int i t := by
  cases r
  exact ⟨_, rfl⟩
theorem op_ltW {X : Cx} (hu : X.A.units + 64 < cLine) : OpR X (compareOp .Lt) (rDat X.K 60 ltP) := op_dat fun s a b d e k as bs Q r1 r2 p1 p2 hn hf q => by
  unfold ltP at hf
  split at hf
  · cases hf
    obtain ⟨t, rfl⟩ := int_reads r1
    obtain ⟨t', rfl⟩ := int_reads r2
    exact lt_int q
  · split at hf
    · rename_i ho
      cases hf
      have z := PySem.W.rcLt_alike d e X.A s a b _ _ r1 r2 (ordOk_ok ho).1 (ordOk_ok ho).2 (by omega)
      exact rc_op (fun _ _ => rfl) (SeqAt.RcOp.of_lt z) q
    · cases hf
theorem op_gtW {X : Cx} (hu : X.A.units + 64 < cLine) : OpR X (compareOp .Gt) (rDat X.K 60 gtP) := op_dat fun s a b d e k as bs Q r1 r2 p1 p2 hn hf q => by
  unfold gtP at hf
  split at hf
  · cases hf
    obtain ⟨t, rfl⟩ := int_reads r1
    obtain ⟨t', rfl⟩ := int_reads r2
    exact gt_int q
  · split at hf
    · rename_i ho
      cases hf
      have z := PySem.W.rcGt_alike d e X.A s a b _ _ r1 r2 (ordOk_ok ho).1 (ordOk_ok ho).2 (by omega)
      exact rc_op (fun _ _ => rfl) z q
    · cases hf
theorem op_leW {X : Cx} (hu : X.A.units + 64 < cLine) : OpR X (compareOp .LtE) (rDat X.K 60 leP) := op_dat fun s a b d e k as bs Q r1 r2 p1 p2 hn hf q => by
  unfold leP at hf
  split at hf
  · cases hf
    obtain ⟨t, rfl⟩ := int_reads r1
    obtain ⟨t', rfl⟩ := int_reads r2
    exact le_int q
  · split at hf
    · rename_i ho
      cases hf
      have z := PySem.W.rcLe_alike d e X.A s a b _ _ r1 r2 (ordOk_ok ho).1 (ordOk_ok ho).2 (by omega)
      exact rc_op (fun _ _ => rfl) z q
    · cases hf
theorem op_geW {X : Cx} (hu : X.A.units + 64 < cLine) : OpR X (compareOp .GtE) (rDat X.K 60 geP) := op_dat fun s a b d e k as bs Q r1 r2 p1 p2 hn hf q => by
  unfold geP at hf
  split at hf
  · cases hf
    obtain ⟨t, rfl⟩ := int_reads r1
    obtain ⟨t', rfl⟩ := int_reads r2
    exact ge_int q
  · split at hf
    · rename_i ho
      cases hf
      have z := PySem.W.rcGe_alike d e X.A s a b _ _ r1 r2 (ordOk_ok ho).1 (ordOk_ok ho).2 (by omega)
      exact rc_op (fun _ _ => rfl) z q
    · cases hf
def ltW := datW 60 ltP
def leW := datW 60 leP
def gtW := datW 60 gtP
def geW := datW 60 geP

/-! ### is, in -/
def rIsW (neg : Bool) : R2 := fun x y H Q => (y = .non ∧ Q (.bl (if neg then !decide (x = .non) else decide (x = .non))) H) ∨ (∃ a b, x = .bl a ∧ y = .bl b ∧ Q (.bl (if neg then !decide (a = b) else decide (a = b))) H)
theorem op_isW {X : Cx} : OpR X (compareOp .Is) (rIsW false) := op_isN.or op_is_bl
theorem op_isNotW {X : Cx} : OpR X (compareOp .IsNot) (rIsW true) := op_notN.or op_isnot_bl
def isNon : W → Bool
  | .py .none => true
  | _ => false
theorem isNon_ok {C : C0} {φ : Ph} {H : Hp} {a : W} {v : V} (r : RW C φ H a v) : decide (v = .non) = isNon a := by
  unfold isNon
  split
  · rw [rw_none.mp r]; rfl
  · rename_i h
    refine decide_eq_false fun e => ?_
    subst e
    cases a with
    | py d =>
      cases d with
      | none => exact h rfl
      | bool b => exact nomatch rw_bool.mp r
      | int b => exact nomatch rw_int.mp r
      | str b => exact nomatch rw_str.mp r
      | list b => obtain ⟨_, _, e, _⟩ := rw_list.mp r; exact nomatch e
      | tuple b => obtain ⟨_, _, e, _⟩ := rw_tuple.mp r; exact nomatch e
      | dict b => exact rp_dict (show Rp C H (.dict b) .non from r)
    | obj n => obtain ⟨_, _, e⟩ := r; exact nomatch e
    | brw ds => obtain ⟨_, _, e, _⟩ := r; exact nomatch e
    | scr ds => obtain ⟨_, _, e, _⟩ := r; exact nomatch e
def isW (neg : Bool) (a b : W) (_ : Sto) : Option W := match b with
  | .py .none => some (.py (.bool (if neg then !isNon a else isNon a)))
  | .py (.bool q) => match a with
    | .py (.bool p) => some (.py (.bool (if neg then !decide (p = q) else decide (p = q))))
    | _ => none
  | _ => none
theorem lift_is {C : C0} {neg : Bool} : Lift2 C (rIsW neg) (isW neg) := by
  intro φ G H x y a b c Q g ra rb h k
  unfold isW at h
  split at h
  · cases h
    refine .inl ⟨rw_none.mp rb, ?_⟩
    rw [isNon_ok ra]
    exact k.now g (rw_bool.mpr rfl)
  · split at h
    · cases h
      exact .inr ⟨_, _, rw_bool.mp ra, rw_bool.mp rb, k.now g (rw_bool.mpr rfl)⟩
    · cases h
  · cases h
/-- x in a list, a tuple -/
def rInP (K : PySem.W.Frag) (neg : Bool) : R2 := fun x y H Q => ∃ d ds, Dp K H x d ∧ (Dp K H y (.list ds) ∨ Dp K H y (.tuple ds)) ∧ min (PyData.depthAll ds) d.depth ≤ 60 ∧ Q (.bl (if neg then !ds.any fun z => PyData.eqv z d else ds.any fun z => PyData.eqv z d)) H
theorem op_inP {X : Cx} (hu : X.A.units + 64 < cLine) : OpR X (compareOp .In) (rInP X.K false) := by
  intro pins s σ H x y v u Q I rx ry q
  obtain ⟨d, ds, hd, he, hn, q⟩ := q
  obtain ⟨as, r1⟩ := Dp.reads I d x v hd rx
  rcases he with he | he
  · obtain ⟨bs, r2⟩ := Dp.reads I _ y u he ry
    exact SeqAt.in_list_data r2 r1 (dp_plain _ he) (dp_plain d hd) (by omega) ⟨.bl _, H, I, rfl, q⟩
  · obtain ⟨bs, r2⟩ := Dp.reads I _ y u he ry
    exact SeqAt.in_tuple_data r2 r1 (dp_plain _ he) (dp_plain d hd) (by omega) ⟨.bl _, H, I, rfl, q⟩
theorem op_notInP {X : Cx} (hu : X.A.units + 64 < cLine) : OpR X (compareOp .NotIn) (rInP X.K true) := by
  intro pins s σ H x y v u Q I rx ry q
  obtain ⟨d, ds, hd, he, hn, q⟩ := q
  obtain ⟨as, r1⟩ := Dp.reads I d x v hd rx
  rcases he with he | he
  · obtain ⟨bs, r2⟩ := Dp.reads I _ y u he ry
    exact SeqAt.notIn_list_data r2 r1 (dp_plain _ he) (dp_plain d hd) (by omega) ⟨.bl _, H, I, rfl, q⟩
  · obtain ⟨bs, r2⟩ := Dp.reads I _ y u he ry
    exact SeqAt.notIn_tuple_data r2 r1 (dp_plain _ he) (dp_plain d hd) (by omega) ⟨.bl _, H, I, rfl, q⟩
def inP (neg : Bool) (a b : W) (G : Sto) : Option W := match pdOf a G, pdOf b G with
  | some d, some (.list ds) => if min (PyData.depthAll ds) d.depth ≤ 60 then some (.py (.bool (if neg then !ds.any fun z => PyData.eqv z d else ds.any fun z => PyData.eqv z d))) else none
  | some d, some (.tuple ds) => if min (PyData.depthAll ds) d.depth ≤ 60 then some (.py (.bool (if neg then !ds.any fun z => PyData.eqv z d else ds.any fun z => PyData.eqv z d))) else none
  | _, _ => none
theorem lift_inP {C : C0} {neg : Bool} : Lift2 C (rInP C.K neg) (inP neg) := by
  intro φ G H x y a b c Q g ra rb h k
  unfold inP at h
  split at h
  · rename_i d ds h1 h2
    split at h
    · rename_i hn
      cases h
      exact ⟨d, ds, pdOf_dp g ra h1, .inl (pdOf_dp g rb h2), hn, k.now g (rw_bool.mpr rfl)⟩
    · cases h
  · rename_i d ds h1 h2
    split at h
    · rename_i hn
      cases h
      exact ⟨d, ds, pdOf_dp g ra h1, .inr (pdOf_dp g rb h2), hn, k.now g (rw_bool.mpr rfl)⟩
    · cases h
  · cases h
end DL

set_option maxHeartbeats 1000000
/-! DL3: names, constants, displays, subscripts, slices, truth, calls. -/
namespace DL
open PySem PySem.Spec PyProof.Rows L2

/-! ### names, constants -/
def dVar (i : Nat) : Fm → M W := fun ρ G => match ρ[i]? with
  | some (.val w) => .ok w G
  | some (.own ds) => .ok (.brw ds) G
  | _ => .bad
def dC (d : PD) : Fm → M W := fun _ G => .ok (.py d) G
section
variable {X : Cx} {EE : EW} {pos : Pos}
theorem me_var (i : Nat) {x : Str} (hN : X.N[i]? = some x := by rfl) (hv : Vis X.env.scope x := by first | exact Or.inl rfl | exact Or.inr (Or.inl rfl) | exact Or.inr (Or.inr rfl)) (hd : (x == ("__debug__" : Str)) = false := by decide)
    (hcd : (x == ("__classdict__" : Str)) = false := by decide) : ME X EE (.Name x pos) (dVar i) := by
  refine PE.weak (pe_var hN hv hd hcd) fun σ H Q h => ?_
  obtain ⟨φ, ρ, G, g, e, h⟩ := h
  unfold dVar at h
  split at h
  · rename_i w ew
    obtain ⟨_, v, e1, r⟩ := e.val i w ew
    exact ⟨v, e1, h φ H (.refl _ _) g v r⟩
  · rename_i ds ed
    obtain ⟨a, xs, e1, e2, r, nm⟩ := e.own i ds ed
    exact ⟨.ref a, e1, h φ H (.refl _ _) g _ ⟨a, xs, rfl, .inl e2, nm, r⟩⟩
  · exact h.elim
theorem tC_weak {C : C0} {d : PD} {v : V} (hp : ∀ H, Rp C H d v) {σ : L2.St} {H : Hp} {Q : VK} (h : tM C EE (dC d) σ H Q) : tC v σ H Q := by
  obtain ⟨φ, ρ, G, g, e, h⟩ := h
  exact h φ H (.refl _ _) g v (hp H)
theorem me_int {i : Int} {j} : ME X EE (.Constant (.int i) j pos) (dC (.int i)) := PE.weak pe_int fun _ _ _ h => tC_weak (fun H => (rp_int (C := c0 X) (H := H)).mpr rfl) h
theorem me_bl {b : Bool} {j} : ME X EE (.Constant (.bool b) j pos) (dC (.bool b)) := PE.weak pe_bl fun _ _ _ h => tC_weak (fun H => (rp_bool (C := c0 X) (H := H)).mpr rfl) h
theorem me_non {j} : ME X EE (.Constant .none j pos) (dC .none) := PE.weak pe_non fun _ _ _ h => tC_weak (fun H => (rp_none (C := c0 X) (H := H)).mpr rfl) h
theorem me_str {x : Str} {j} : ME X EE (.Constant (.str x) j pos) (dC (.str x)) := PE.weak pe_str fun _ _ _ h => tC_weak (fun H => (rp_str (C := c0 X) (H := H)).mpr rfl) h
/-- a constant of the module -/
theorem me_glob {x : Str} {d : PD} {v : V} {u : Value} (hg : Gl X x) (hm : X.mg x = some u) (r : RelV v u) (hp : ∀ H, Rp (c0 X) H d v) (hd : (x == ("__debug__" : Str)) = false := by decide) : ME X EE (.Name x pos) (dC d) :=
  PE.weak (pe_glob hg hm r hd) fun _ _ _ h => tC_weak hp h
end

/-! ### argument lists, displays -/
def dNil : Fm → M (List W) := fun _ => ret []
def dCons (a : Fm → M W) (r : Fm → M (List W)) : Fm → M (List W) := fun ρ => bnd (a ρ) fun x => bnd (r ρ) fun xs => ret (x :: xs)
def allPy : List W → Option (List PD)
  | [] => some []
  | .py d :: r => (allPy r).map (d :: ·)
  | _ :: _ => none
theorem allPy_rp {C : C0} {φ : Ph} {H : Hp} : ∀ {ws : List W} {vs : List V} {ds : List PD}, RWA C φ H ws vs → allPy ws = some ds → RpA C H ds vs
  | [], _, _, h, e => by
    cases e
    rw [show _ = [] from h]
    exact .nil
  | .py d :: r, _, ds, h, e => by
    obtain ⟨v, vr, rfl, h1, h2⟩ := h
    unfold allPy at e
    obtain ⟨es, e1, rfl⟩ := Option.map_eq_some_iff.mp e
    exact .cons h1 (allPy_rp h2 e1)
  | .obj _ :: _, _, _, _, e => nomatch e
  | .brw _ :: _, _, _, _, e => nomatch e
  | .scr _ :: _, _, _, _, e => nomatch e
def dTup (as : Fm → M (List W)) : Fm → M W := fun ρ => bnd (as ρ) fun ws => lft fun _ => match allPy ws with
  | some ds => if ds.length ≤ 1000 then some (.py (.tuple ds)) else none
  | none => none
def dLst (as : Fm → M (List W)) : Fm → M (List PD) := fun ρ => bnd (as ρ) fun ws => lft fun _ => match allPy ws with
  | some ds => if ds.length ≤ 1000 then some ds else none
  | none => none
/-- the new list is not written any more -/
def dFz (a : Fm → M (List PD)) : Fm → M W := fun ρ => bnd (a ρ) fun ds => ret (.py (.list ds))
/-- the new list goes to the store -/
def dAlloc (a : Fm → M (List PD)) : Fm → M W := fun ρ => bnd (a ρ) fun ds G => .ok (.obj G.length) (G ++ [.lst ds])
section
variable {X : Cx} {EE : EW} {pos : Pos} {e : Expr} {es : List Expr} {da : Fm → M W} {dr : Fm → M (List W)} {dl : Fm → M (List PD)}
theorem ma_nil : MA X EE [] dNil := PA.weak pa_nil fun σ H Q h => by
  obtain ⟨φ, ρ, G, g, e, h⟩ := h
  exact h φ H (.refl _ _) g [] rfl
theorem ma_cons (ha : ME X EE e da) (hr : MA X EE es dr) (hs : starEach (e :: es) X.env = (false, eval e X.env) :: starEach es X.env := by rfl) : MA X EE (e :: es) (dCons da dr) := by
  refine PA.weak (pa_cons ha hr hs) fun σ H Q h => ?_
  obtain ⟨φ, ρ, G, g, e, h⟩ := h
  refine ⟨φ, ρ, G, g, e, (endsE.bnd h).mono fun x G1 φ1 H1 x1 g1 k v r1 => ⟨φ1, ρ, G1, g1, e.ext x1, (endsE.bnd k).mono fun ws G2 φ2 H2 x2 g2 k2 vs r2 => ?_⟩⟩
  exact k2 φ2 H2 (.refl _ _) g2 (v :: vs) ⟨v, vs, rfl, r1.ext x2, r2⟩
theorem me_tup {k} (h : MA X EE es dr) : ME X EE (.Tuple es k pos) (dTup dr) := by
  refine PE.weak (pe_tup h) fun σ H Q h => ?_
  obtain ⟨φ, ρ, G, g, e, h⟩ := h
  refine ⟨φ, ρ, G, g, e, (endsE.bnd h).mono fun ws G1 φ1 H1 x1 g1 k vs r1 => ?_⟩
  obtain ⟨w, hw, k⟩ := endsE.lft k
  split at hw
  · rename_i ds hd
    split at hw
    · rename_i hz
      cases hw
      have q := allPy_rp r1 hd
      refine ⟨by rw [sizeLine_eq, ← q.length]; omega, fun p n => ?_⟩
      exact k φ1 _ (.laid n) (g1.laid n) _ (rw_tuple.mpr ⟨p, vs, rfl, .of upd_same, RpA.kp (Ext.laid (φ := φ1) n).kp _ q⟩)
    · cases hw
  · cases hw
theorem mf_lst (h : MA X EE es dr) : MF X EE (.List es pos) (dLst dr) := by
  refine PE.weak (pe_lst h) fun σ H Q h => ?_
  obtain ⟨φ, ρ, G, g, e, h⟩ := h
  have h0 := h
  unfold dLst at h0
  refine ⟨φ, ρ, G, g, e, ?_⟩
  cases hr : dr ρ G with
  | bad => rw [show dLst dr ρ G = .bad by unfold dLst bnd; rw [hr]] at h; exact h
  | exc x G1 => rw [show dLst dr ρ G = .exc x G1 by unfold dLst bnd; rw [hr]] at h; exact h
  | ok ws G1 =>
    intro φ1 H1 x1 g1 vs r1
    rw [bnd_ok hr] at h0
    obtain ⟨ds, hw, k⟩ := endsE.lft h0
    split at hw
    · rename_i ds' hd
      split at hw
      · rename_i hz
        cases hw
        have q := allPy_rp r1 hd
        refine ⟨by rw [sizeLine_eq, ← q.length]; omega, fun p n => ?_⟩
        refine k φ1 _ (x1.trans (.laid n)) (g1.laid n) p vs ?_ upd_same (g1.new_not n) (RpA.kp (Ext.laid (φ := φ1) n).kp _ q)
        cases hp : H p with
        | none => rfl
        | some o =>
          by_cases hm : p ∈ φ.mu
          · have := g1.trk p (x1.sub p hm)
            obtain ⟨o', e', _⟩ := this
            rw [n] at e'; cases e'
          · rw [x1.keep p o hp hm] at n; cases n
      · cases hw
    · cases hw
theorem me_fz (h : MF X EE e dl) : ME X EE e (dFz dl) := by
  refine PE.weak (PE.fz h) fun σ H Q h => ?_
  obtain ⟨φ, ρ, G, g, e, h⟩ := h
  refine ⟨φ, ρ, G, g, e, ?_⟩
  unfold dFz at h
  cases hr : dl ρ G with
  | bad => unfold bnd at h; rw [hr] at h; exact h
  | exc x G1 => unfold bnd at h; rw [hr] at h; exact h
  | ok ds G1 =>
    rw [bnd_ok hr] at h
    intro φ1 H1 x1 g1 a xs n e1 nm r
    refine .inr ⟨a, xs, rfl, e1, fun o => ?_⟩
    exact h φ1 _ (x1.frz n e1) (g1.kp (kp_frz e1) fun b u hb hu => by rw [upd_ne (fun z => nm (by rw [← z]; exact hb))]; exact hu) _ (rw_list.mpr ⟨a, xs, rfl, ⟨o, upd_same⟩, RpA.kp (kp_frz e1) _ r⟩)
theorem me_alloc (h : MF X EE e dl) : ME X EE e (dAlloc dl) := by
  refine PE.weak h fun σ H Q h => ?_
  obtain ⟨φ, ρ, G, g, e, h⟩ := h
  refine ⟨φ, ρ, G, g, e, ?_⟩
  unfold dAlloc at h
  cases hr : dl ρ G with
  | bad => unfold bnd at h; rw [hr] at h; exact h
  | exc x G1 => unfold bnd at h; rw [hr] at h; exact h
  | ok ds G1 =>
    rw [bnd_ok hr] at h
    intro φ1 H1 x1 g1 a xs n e1 nm r
    have na : a ∉ φ1.adr := fun z => nm (g1.inm a z)
    refine h ⟨φ1.adr ++ [a], a :: φ1.mu⟩ H1 ⟨fun i b hb => ?_, fun b hb => List.mem_cons_of_mem _ (x1.sub b hb), fun b hb => ?_, x1.keep, x1.kp⟩ ⟨?_, ?_, fun b hb => ?_, fun b hb => ?_, fun i o ho => ?_⟩ _ ⟨a, ?_, rfl⟩
    · have z := x1.pre i b hb
      show (φ1.adr ++ [a])[i]? = some b
      rw [List.getElem?_append_left (List.getElem?_eq_some_iff.mp z).1]
      exact z
    · rcases List.mem_cons.mp hb with rfl | hb
      · exact .inr n
      · exact x1.new b hb
    · show (φ1.adr ++ [a]).length = (G1 ++ [GO.lst ds]).length
      rw [List.length_append, List.length_append, g1.len]
      rfl
    · show (φ1.adr ++ [a]).Nodup
      rw [List.nodup_append]
      refine ⟨g1.nod, by simp, fun x hx y hy => ?_⟩
      rw [List.mem_singleton.mp hy]
      exact fun z => na (z ▸ hx)
    · show b ∈ a :: φ1.mu
      rcases List.mem_append.mp hb with hb | hb
      · exact List.mem_cons_of_mem _ (g1.inm b hb)
      · rw [List.mem_singleton.mp hb]; exact List.mem_cons_self
    · rcases List.mem_cons.mp hb with rfl | hb
      · exact ⟨_, e1, trivial⟩
      · exact g1.trk b hb
    · show ∃ b, (φ1.adr ++ [a])[i]? = some b ∧ GOk (c0 X) H1 b o
      by_cases hi : i < G1.length
      · rw [List.getElem?_append_left hi] at ho
        obtain ⟨b, e2, q⟩ := g1.obj i o ho
        exact ⟨b, by rw [List.getElem?_append_left (by rw [g1.len]; exact hi)]; exact e2, q⟩
      · have hi2 : i = G1.length := by
          have := (List.getElem?_eq_some_iff.mp ho).1
          rw [List.length_append, List.length_singleton] at this
          omega
        subst hi2
        rw [List.getElem?_append_right (Nat.le_refl _), Nat.sub_self] at ho
        cases ho
        refine ⟨a, ?_, xs, e1, r⟩
        rw [← g1.len, List.getElem?_append_right (Nat.le_refl _), Nat.sub_self]
        rfl
    · show (φ1.adr ++ [a])[G1.length]? = some a
      rw [← g1.len, List.getElem?_append_right (Nat.le_refl _), Nat.sub_self]
      rfl
end

/-! ### subscripts -/
theorem atI_rp {C : C0} {H : Hp} {ds : List PD} {xs : List V} {i : Int} {d : PD} (r : RpA C H ds xs) (h : atI ds i = some d) : ∃ v, atI xs i = some v ∧ Rp C H d v := by
  unfold atI at *
  rw [← r.length]
  cases e : ixN ds.length i with
  | none => rw [e] at h; cases h
  | some j =>
    rw [e] at h
    exact r.get h
def ixW (a b : W) (G : Sto) : Option W := match b with
  | .py (.int i) => match a with
    | .py (.str z) => if z.length ≤ 16777216 then (atI z.cps.toList i).map fun c => .py (.str ⟨#[c]⟩) else none
    | .py (.tuple ds) => (atI ds i).map W.py
    | a => match lstOf a G with
      | some ds => (atI ds i).map W.py
      | none => none
  | _ => none
theorem lift_ix {C : C0} : Lift2 C (rIx C.K) ixW := by
  intro φ G H x y a b c Q g ra rb h k
  unfold ixW at h
  split at h
  · split at h
    · split at h
      · rename_i hz
        obtain ⟨q, hq, rfl⟩ := Option.map_eq_some_iff.mp h
        exact .inr (.inr ⟨_, _, q, rw_str.mp ra, rw_int.mp rb, by rw [sizeLine_eq]; exact hz, hq, k.now g (rw_str.mpr rfl)⟩)
      · cases h
    · obtain ⟨d, hd, rfl⟩ := Option.map_eq_some_iff.mp h
      obtain ⟨p, xs, rfl, f, q⟩ := rw_tuple.mp ra
      obtain ⟨v, hv, rv⟩ := atI_rp q hd
      exact .inr (.inl ⟨p, xs, _, v, rfl, rw_int.mp rb, f, hv, k.now g rv⟩)
    · split at h
      · rename_i ds e1
        obtain ⟨d, hd, rfl⟩ := Option.map_eq_some_iff.mp h
        obtain ⟨p, xs, rfl, f, q⟩ := lstOf_rd g ra e1
        obtain ⟨v, hv, rv⟩ := atI_rp q hd
        exact .inl ⟨p, xs, _, v, rfl, rw_int.mp rb, .inl f, hv, k.now g rv⟩
      · cases h
  · cases h
theorem me_ix {X : Cx} {EE : EW} {pos : Pos} {a b : Expr} {da db : Fm → M W} (ha : ME X EE a da) (hb : ME X EE b db) (hs : PlainIx b := by exact fun _ _ => rfl) : ME X EE (.Subscript a b pos) (dOp ixW da db) :=
  PE.weak (PE.fz (pe_ix ix_seq ha hb hs)) fun _ _ _ h => op2_weak lift_ix h

/-! ### slices -/
def tMO (C : C0) (EE : EW) (den : Fm → M (Option Int)) : TO := fun σ H Q => ∃ φ ρ G, RelG C φ G H ∧ RelE C φ ρ σ H ∧
  endsE C EE φ ρ σ H (fun o _ _ H' => Q o H') (den ρ G)
def MO (X : Cx) (EE : EW) (e : Option Expr) (den : Fm → M (Option Int)) : Prop := PO X e (tMO (c0 X) EE den)
def dNo : Fm → M (Option Int) := fun _ => ret none
def dPart (a : Fm → M W) : Fm → M (Option Int) := fun ρ => bnd (a ρ) fun x => lft fun _ => match x with
  | .py (.int i) => some (some i)
  | _ => none
def cutP (xs : List PD) (lo hi : Option Int) : List PD := (xs.drop (HT.sIx xs.length 0 lo)).take (HT.sIx xs.length xs.length hi - HT.sIx xs.length 0 lo)
def sliceW (a : W) (lo hi : Option Int) (G : Sto) : Option W := match a with
  | .py (.tuple ds) => some (.py (.tuple (cutP ds lo hi)))
  | .scr ds => some (.py (.list (cutP ds lo hi)))
  | a => match lstOf a G with
    | some ds => some (.py (.list (cutP ds lo hi)))
    | none => none
def dSlice (a : Fm → M W) (lo hi : Fm → M (Option Int)) : Fm → M W := fun ρ => bnd (a ρ) fun x => bnd (lo ρ) fun l => bnd (hi ρ) fun u => lft (sliceW x l u)
section
variable {X : Cx} {EE : EW} {pos p2 : Pos} {e : Expr} {lo hi : Option Expr} {da : Fm → M W} {dl dh : Fm → M (Option Int)}
theorem PO.weak {e : Option Expr} {t t' : TO} (h : PO X e t) (w : ∀ σ H Q, t' σ H Q → t σ H Q) : PO X e t' := ⟨fun pins s σ H Q I q => h.run pins s σ H Q I (w _ _ _ q)⟩
theorem mo_no : MO X EE none dNo := PO.weak po_none fun σ H Q h => by
  obtain ⟨φ, ρ, G, g, e, h⟩ := h
  exact h φ H (.refl _ _) g
theorem mo_part (h : ME X EE e da) : MO X EE (some e) (dPart da) := PO.weak (po_some h) fun σ H Q h => by
  obtain ⟨φ, ρ, G, g, e, h⟩ := h
  refine ⟨φ, ρ, G, g, e, (endsE.bnd h).mono fun x G1 φ1 H1 x1 g1 k v r1 => ?_⟩
  obtain ⟨o, ho, k⟩ := endsE.lft k
  split at ho
  · cases ho
    exact ⟨_, rw_int.mp r1, k φ1 H1 (.refl _ _) g1⟩
  · cases ho
theorem cut_rp {C : C0} {H : Hp} {ds : List PD} {xs : List V} (lo hi : Option Int) (r : RpA C H ds xs) : RpA C H (cutP ds lo hi) (cutV xs lo hi) := by
  unfold cutP cutV
  rw [← r.length]
  exact (r.drop _).take _
theorem me_slice (he : ME X EE e da) (hl : MO X EE lo dl) (hu : MO X EE hi dh) : ME X EE (.Subscript e (.Slice lo hi none p2) pos) (dSlice da dl dh) := by
  refine PE.weak (PE.fz (pe_slice (sl_list.or sl_tupA) he hl hu)) fun σ H Q h => ?_
  obtain ⟨φ, ρ, G, g, e, h⟩ := h
  refine ⟨φ, ρ, G, g, e, (endsE.bnd h).mono fun x G1 φ1 H1 x1 g1 k v r1 => ⟨φ1, ρ, G1, g1, e.ext x1, (endsE.bnd k).mono fun l G2 φ2 H2 x2 g2 k2 => ⟨φ2, ρ, G2, g2, (e.ext x1).ext x2, (endsE.bnd k2).mono fun u G3 φ3 H3 x3 g3 k3 => ?_⟩⟩⟩
  obtain ⟨w, hw, k4⟩ := endsE.lft k3
  have r3 := (r1.ext x2).ext x3
  unfold sliceW at hw
  split at hw
  · cases hw
    obtain ⟨p, xs, rfl, f, q⟩ := rw_tuple.mp r3
    refine .inr ⟨p, xs, rfl, f, fun hc => ?_, fun _ p3 n3 => Wish.tup k4 g3 n3 (cut_rp l u q)⟩
    refine Wish.now k4 g3 (rw_tuple.mpr ⟨p, xs, rfl, f, ?_⟩)
    have z := cut_rp l u q
    rw [show cutV xs l u = xs by unfold cutV; rw [hc.1, hc.2]; simp] at z
    exact z
  · cases hw
    obtain ⟨p, xs, rfl, f, q⟩ := r3
    exact .inl ⟨p, xs, rfl, f.elim FzL.sq .inr, fun p3 n3 => Wish.lst k4 g3 n3 (cut_rp l u q)⟩
  · split at hw
    · rename_i ds e1
      cases hw
      obtain ⟨p, xs, rfl, f, q⟩ := lstOf_rd g3 r3 e1
      exact .inl ⟨p, xs, rfl, .inl f, fun p3 n3 => Wish.lst k4 g3 n3 (cut_rp l u q)⟩
    · cases hw
end

/-! ### truth -/
def truW (a : W) (G : Sto) : Option Bool := match a with
  | .py .none => some false
  | .py (.bool b) => some b
  | .py (.int i) => some (i != 0)
  | .py (.str x) => if x.length ≤ 16777216 then some ((x.length : Int) != 0) else none
  | .py (.tuple ds) => some (!ds.isEmpty)
  | a => (lstOf a G).map fun ds => !ds.isEmpty
theorem isEmpty_rp {C : C0} {H : Hp} {ds : List PD} {xs : List V} (r : RpA C H ds xs) : (!ds.isEmpty) = !xs.isEmpty := by
  have e := r.length
  cases ds <;> cases xs <;> simp_all
theorem tru_rw {C : C0} {φ : Ph} {G : Sto} {H : Hp} {a : W} {v : V} {k : Bool} (g : RelG C φ G H) (r : RW C φ H a v) (h : truW a G = some k) : TruV C.K v H k := by
  unfold truW at h
  split at h
  · cases h; rw [rw_none.mp r]; exact rfl
  · cases h; rw [rw_bool.mp r]; exact rfl
  · cases h; rw [rw_int.mp r]; exact rfl
  · split at h
    · rename_i hz
      cases h
      rw [rw_str.mp r]
      exact ⟨by rw [sizeLine_eq]; exact hz, rfl⟩
    · cases h
  · cases h
    obtain ⟨p, xs, rfl, f, q⟩ := rw_tuple.mp r
    exact .inr (.inl ⟨xs, f, isEmpty_rp q⟩)
  · obtain ⟨ds, h1, rfl⟩ := Option.map_eq_some_iff.mp h
    obtain ⟨p, xs, rfl, f, q⟩ := lstOf_rd g r h1
    exact .inl ⟨xs, .inl f, isEmpty_rp q⟩
def dTest (a : Fm → M W) : Fm → M Bool := fun ρ => bnd (a ρ) fun x => lft (truW x)
def dNotT (a : Fm → M Bool) : Fm → M Bool := fun ρ => bnd (a ρ) fun b => ret (!b)
def dAndT (a b : Fm → M Bool) : Fm → M Bool := fun ρ => bnd (a ρ) fun x => if x = true then b ρ else ret false
def dOrT (a b : Fm → M Bool) : Fm → M Bool := fun ρ => bnd (a ρ) fun x => if x = true then ret true else b ρ
def dNot (a : Fm → M W) : Fm → M W := fun ρ => bnd (a ρ) fun x => lft fun G => (truW x G).map fun b => .py (.bool (!b))
def dAnd (a b : Fm → M W) : Fm → M W := fun ρ => bnd (a ρ) fun x => bnd (lft (truW x)) fun k => if k = true then b ρ else ret x
def dOr (a b : Fm → M W) : Fm → M W := fun ρ => bnd (a ρ) fun x => bnd (lft (truW x)) fun k => if k = true then ret x else b ρ
def dIfE (c : Fm → M Bool) (a b : Fm → M W) : Fm → M W := fun ρ => bnd (c ρ) fun x => if x = true then a ρ else b ρ
section
variable {X : Cx} {EE : EW} {pos : Pos} {a b c : Expr} {rest : List Expr} {da db dc : Fm → M W} {dt du : Fm → M Bool}
/-- any expression as a test -/
theorem mt_truth (ha : ME X EE a da) (he : ∀ whole, isTrue a X.env whole = (do let v ← whole; standAt a.pos; holding [v] (truthy v)) := by intro _; rfl) : MT X EE a (dTest da) := by
  refine PT.weak (pt_truth ha he) fun σ H Q h => ?_
  obtain ⟨φ, ρ, G, g, e, h⟩ := h
  refine ⟨φ, ρ, G, g, e, (endsE.bnd h).mono fun x G1 φ1 H1 x1 g1 k v r1 => ?_⟩
  obtain ⟨b, hb, k⟩ := endsE.lft k
  exact ⟨b, tru_rw g1 r1 hb, k φ1 H1 (.refl _ _) g1⟩
theorem test_weak {C : C0} {t : TE} {σ : L2.St} {H : Hp} {Q : Bool → Hp → Prop} (w : ∀ Q, tM C EE da σ H Q → t σ H Q) (h : tMT C EE (dTest da) σ H Q) : t σ H fun v H' => (∃ k, TruV C.K v H' k ∧ Q k H') := by
  obtain ⟨φ, ρ, G, g, e, h⟩ := h
  refine w _ ⟨φ, ρ, G, g, e, (endsE.bnd h).mono fun x G1 φ1 H1 x1 g1 k v r1 => ?_⟩
  obtain ⟨b, hb, k⟩ := endsE.lft k
  exact ⟨b, tru_rw g1 r1 hb, k φ1 H1 (.refl _ _) g1⟩
/-- what is a truth -/
def bolW : W → Option Bool
  | .py (.bool b) => some b
  | _ => none
def dBol (a : Fm → M W) : Fm → M Bool := fun ρ => bnd (a ρ) fun x => lft fun _ => bolW x
theorem bol_weak {C : C0} {t : TE} {σ : L2.St} {H : Hp} {Q : Bool → Hp → Prop} (w : ∀ Q, tM C EE da σ H Q → t σ H Q) (h : tMT C EE (dBol da) σ H Q) : tTest t σ H Q := by
  obtain ⟨φ, ρ, G, g, e, h⟩ := h
  refine w _ ⟨φ, ρ, G, g, e, (endsE.bnd h).mono fun x G1 φ1 H1 x1 g1 k v r1 => ?_⟩
  obtain ⟨b, hb, k⟩ := endsE.lft k
  unfold bolW at hb
  split at hb
  · cases hb
    exact ⟨_, rw_bool.mp r1, k φ1 H1 (.refl _ _) g1⟩
  · cases hb
theorem mt_cmp {op : CmpOp} {r : R2} {F : W → W → Sto → Option W} (ho : OpR X (compareOp op) r) (hl : Lift2 (c0 X) r F) (ha : ME X EE a da) (hb : ME X EE b db) (hm : behindInMarks op b = false) : MT X EE (.Compare a [op] [b] pos) (dBol (dOp F da db)) := by
  refine PT.weak (pt_cmpR (DL.OpR.fz ho) ha hb hm) fun σ H Q h => bol_weak (t := tOp _ _ _) (fun Q h => ?_) h
  obtain ⟨φ, ρ, G, g, e, h⟩ := h
  refine ⟨φ, ρ, G, g, e, (endsE.bnd h).mono fun x G1 φ1 H1 x1 g1 k v r1 => ⟨φ1, ρ, G1, g1, e.ext x1, (endsE.bnd k).mono fun y G2 φ2 H2 x2 g2 k2 u r2 => ?_⟩⟩
  obtain ⟨w, hw, k3⟩ := endsE.lft k2
  exact hl φ2 G2 H2 v u x y w Q g2 (r1.ext x2) r2 hw k3
theorem mt_chain {op op' : CmpOp} {r r' : R2} {F F' : W → W → Sto → Option W} (ho : OpR X (compareOp op) r) (ho' : OpR X (compareOp op') r') (hl : Lift2 (c0 X) r F) (hl' : Lift2 (c0 X) r' F')
    (ha : ME X EE a da) (hb : ME X EE b db) (hc : ME X EE c dc) (hm : lastMarks [op, op'] [b, c] = false := by with_unfolding_all rfl) : MT X EE (.Compare a [op, op'] [b, c] pos) (dBol (dChain F F' da db dc)) :=
  PT.weak (pt_chain (DL.OpR.fz ho) (DL.OpR.fz ho') ha hb hc hm) fun σ H Q h => bol_weak (t := tChain _ _ _ _ _) (fun Q h => chain_weak hl hl' h) h
theorem mt_not (ha : MT X EE a dt) : MT X EE (.UnaryOp .Not a pos) (dNotT dt) := PT.weak (pt_not ha) fun σ H Q h => by
  obtain ⟨φ, ρ, G, g, e, h⟩ := h
  exact ⟨φ, ρ, G, g, e, (endsE.bnd h).mono fun x G1 φ1 H1 x1 g1 k => k φ1 H1 (.refl _ _) g1⟩
def MW (X : Cx) (EE : EW) (e : Expr) (den : Fm → M Bool) : Prop := PW X e (tMT (c0 X) EE den)
theorem PW.weak {e : Expr} {t t' : TT} (h : PW X e t) (w : ∀ σ H Q, t' σ H Q → t σ H Q) : PW X e t' := ⟨fun wh pins s σ H Q I q => h.run wh pins s σ H Q I (w _ _ _ q)⟩
theorem mw_pt (h : MW X EE a dt) : MT X EE a dt := L2.PW.pt h
theorem mw_and1 (ha : MT X EE a dt) : MW X EE (.BoolOp .And [a] pos) dt := pw_and1 ha
theorem mw_or1 (ha : MT X EE a dt) : MW X EE (.BoolOp .Or [a] pos) dt := pw_or1 ha
theorem mw_and (ha : MT X EE a dt) (hb : MW X EE (.BoolOp .And (b :: rest) pos) du) : MW X EE (.BoolOp .And (a :: b :: rest) pos) (dAndT dt du) := PW.weak (pw_and ha hb) fun σ H Q h => by
  obtain ⟨φ, ρ, G, g, e, h⟩ := h
  refine ⟨φ, ρ, G, g, e, (endsE.bnd h).mono fun x G1 φ1 H1 x1 g1 k => ?_⟩
  cases x with
  | true => exact ⟨φ1, ρ, G1, g1, e.ext x1, k⟩
  | false => exact k φ1 H1 (.refl _ _) g1
theorem mw_or (ha : MT X EE a dt) (hb : MW X EE (.BoolOp .Or (b :: rest) pos) du) : MW X EE (.BoolOp .Or (a :: b :: rest) pos) (dOrT dt du) := PW.weak (pw_or ha hb) fun σ H Q h => by
  obtain ⟨φ, ρ, G, g, e, h⟩ := h
  refine ⟨φ, ρ, G, g, e, (endsE.bnd h).mono fun x G1 φ1 H1 x1 g1 k => ?_⟩
  cases x with
  | true => exact k φ1 H1 (.refl _ _) g1
  | false => exact ⟨φ1, ρ, G1, g1, e.ext x1, k⟩
theorem me_not (ha : ME X EE a da) : ME X EE (.UnaryOp .Not a pos) (dNot da) := PE.weak (pe_notT ha) fun σ H Q h => by
  obtain ⟨φ, ρ, G, g, e, h⟩ := h
  refine ⟨φ, ρ, G, g, e, (endsE.bnd h).mono fun x G1 φ1 H1 x1 g1 k v r1 => ?_⟩
  obtain ⟨w, hw, k⟩ := endsE.lft k
  obtain ⟨b, hb, rfl⟩ := Option.map_eq_some_iff.mp hw
  exact ⟨b, tru_rw g1 r1 hb, k φ1 H1 (.refl _ _) g1 _ (rw_bool.mpr rfl)⟩
theorem me_one {op} (h : ME X EE a da) : ME X EE (.BoolOp op [a] pos) da := pe_one h
theorem me_and (ha : ME X EE a da) (hb : ME X EE (.BoolOp .And (b :: rest) pos) db) : ME X EE (.BoolOp .And (a :: b :: rest) pos) (dAnd da db) := PE.weak (pe_andT ha hb) fun σ H Q h => by
  obtain ⟨φ, ρ, G, g, e, h⟩ := h
  refine ⟨φ, ρ, G, g, e, (endsE.bnd h).mono fun x G1 φ1 H1 x1 g1 k v r1 => ?_⟩
  obtain ⟨q, hq, k⟩ := endsE.lft (endsE.bnd k)
  have k := k φ1 H1 (.refl _ _) g1
  refine ⟨q, tru_rw g1 r1 hq, ?_⟩
  cases q with
  | true => exact ⟨φ1, ρ, G1, g1, e.ext x1, k⟩
  | false => exact k φ1 H1 (.refl _ _) g1 v r1
theorem me_or (ha : ME X EE a da) (hb : ME X EE (.BoolOp .Or (b :: rest) pos) db) : ME X EE (.BoolOp .Or (a :: b :: rest) pos) (dOr da db) := PE.weak (pe_orT ha hb) fun σ H Q h => by
  obtain ⟨φ, ρ, G, g, e, h⟩ := h
  refine ⟨φ, ρ, G, g, e, (endsE.bnd h).mono fun x G1 φ1 H1 x1 g1 k v r1 => ?_⟩
  obtain ⟨q, hq, k⟩ := endsE.lft (endsE.bnd k)
  have k := k φ1 H1 (.refl _ _) g1
  refine ⟨q, tru_rw g1 r1 hq, ?_⟩
  cases q with
  | true => exact k φ1 H1 (.refl _ _) g1 v r1
  | false => exact ⟨φ1, ρ, G1, g1, e.ext x1, k⟩
theorem me_if (hc : MT X EE c dt) (ha : ME X EE a da) (hb : ME X EE b db) : ME X EE (.IfExp c a b pos) (dIfE dt da db) := PE.weak (pe_ifExp hc ha hb) fun σ H Q h => by
  obtain ⟨φ, ρ, G, g, e, h⟩ := h
  refine ⟨φ, ρ, G, g, e, (endsE.bnd h).mono fun x G1 φ1 H1 x1 g1 k => ?_⟩
  cases x with
  | true => exact ⟨φ1, ρ, G1, g1, e.ext x1, k⟩
  | false => exact ⟨φ1, ρ, G1, g1, e.ext x1, k⟩
end
end DL

set_option maxHeartbeats 1000000
/-! DL4: what is walked, targets, comprehensions. -/
namespace DL
open PySem PySem.Spec PyProof.Rows L2

/-! ### what is walked -/
def Grow (H H' : Hp) : Prop := ∀ a o, H a = some o → H' a = some o
theorem Grow.refl (H : Hp) : Grow H H := fun _ _ h => h
theorem Grow.ext {φ : Ph} {H H' : Hp} (g : Grow H H') : Ext φ H φ H' := ⟨fun _ _ h => h, fun _ h => h, fun _ h => .inl h, fun a o h _ => g a o h, ⟨fun a xs h => g a _ h, fun a o u h => g a _ h⟩⟩
theorem Grow.laid {H : Hp} {a : Addr} {o : HO} (n : H a = none) : Grow H (upd H a o) := fun b u h => by rw [upd_ne (ne_of_none h n)]; exact h
/-- it yields the data ds, whatever else changes -/
def ItOk (C : C0) (Ev : Hp → Prop) (J : It) (ds : List PD) : Prop :=
  ∀ H, Ev H → ∀ i : Nat, (∀ d, ds[i]? = some d → J.go i H ∧ ∀ x H', J.yld i H x H' → Grow H H' ∧ Rp C H' d x) ∧ (i = ds.length → J.stop i H)
def tMI (C : C0) (EE : EW) (den : Fm → M (List PD)) : TI := fun σ H R => ∃ φ ρ G, RelG C φ G H ∧ RelE C φ ρ σ H ∧
  endsE C EE φ ρ σ H (fun ds _ φ' H' => ∀ J, ItOk C (fun H2 => ∃ φ2, Ext φ' H' φ2 H2) J ds → R J H') (den ρ G)
/-- .. that lasts from statement to statement -/
def tMIS (C : C0) (EE : EW) (den : Fm → M (List PD)) : TI := fun σ H R => ∃ φ ρ G, RelG C φ G H ∧ RelE C φ ρ σ H ∧
  endsE C EE φ ρ σ H (fun ds _ φ' H' => ∀ J, ItOk C (Kp H') J ds → R J H') (den ρ G)
def MI (X : Cx) (EE : EW) (tg e : Expr) (den : Fm → M (List PD)) : Prop := PI X tg e (tMI (c0 X) EE den)
def MIS (X : Cx) (EE : EW) (tg e : Expr) (den : Fm → M (List PD)) : Prop := PI X tg e (tMIS (c0 X) EE den)
theorem PI.weak {X : Cx} {tg e : Expr} {t t' : TI} (h : PI X tg e t) (w : ∀ σ H R, t' σ H R → t σ H R) : PI X tg e t' := ⟨fun pins s σ H R I q => h.run pins s σ H R I (w _ _ _ q)⟩
theorem mi_of {X : Cx} {EE : EW} {tg e : Expr} {den : Fm → M (List PD)} (h : MIS X EE tg e den) : MI X EE tg e den := PI.weak h fun σ H R q => by
  obtain ⟨φ, ρ, G, g, e, q⟩ := q
  exact ⟨φ, ρ, G, g, e, q.mono fun ds G1 φ1 H1 x1 g1 k J ok => k J fun H2 ⟨φ2, x2⟩ => ok H2 x2.kp⟩

/-- a list or a tuple, walked -/
def iSeq (K : PySem.W.Frag) (tl : TE) : TI := fun σ H R => tl σ H fun x H1 => ∃ a, x = .ref a ∧ (((∃ xs, SqL K H1 a xs) ∧ R (Itl K a) H1) ∨ ((∃ xs, SqT K H1 a xs) ∧ R (Itt K a) H1))
theorem pi_seq {X : Cx} {tg l : Expr} {tl : TE} (hl : PE X l tl) : PI X tg l (iSeq X.K tl) := by
  refine ⟨fun pins s σ H R I h => ?_⟩
  refine thn (hl.run pins s σ H _ I h) fun v s1 ⟨x, H1, I1, r1, a, ex, q⟩ => ?_
  subst ex
  cases r1
  have mk : ∀ (o : Obj), Inv X pins σ H1 { s1 with heap := s1.heap.push o, toks := s1.toks } := fun o => I1.kept fun b u e => Heap.get?_push_of_some _ e
  have fp : ∀ b ∈ [s1.heap.objs.size], FpOk X pins H1 b := fun b hb => by
    rw [List.mem_singleton.mp hb]
    exact I1.fpOk (Nat.le_refl _) (I1.hok.fresh (Nat.le_refl _))
  rcases q with ⟨⟨xs, hq⟩, q⟩ | ⟨⟨xs, hq⟩, q⟩
  · obtain ⟨its, rv, p, hz⟩ := I1.list hq
    exact wpAny_pyIter_list p.isList ⟨_, _, _, _, H1, rfl, mk _, turn_list a _, ⟨_, Heap.get?_push_size _ rfl, rfl, rfl⟩, fp, q⟩
  · obtain ⟨its, rv, p, hz⟩ := I1.tuple hq
    exact wpAny_pyIter_tuple (show s1.heap.IsTuple a its.toArray from p) ⟨_, _, _, _, H1, rfl, mk _, turn_tuple a _, ⟨_, Heap.get?_push_size _ rfl, rfl, rfl⟩, fp, q⟩
section
variable {C : C0} {a : Addr} {xs : List V} {ds : List PD} {Ev : Hp → Prop}
theorem itOk_l (h : ∀ H, Ev H → SqL C.K H a xs ∧ RpA C H ds xs) : ItOk C Ev (Itl C.K a) ds := fun H ev i => by
  obtain ⟨q, r⟩ := h H ev
  refine ⟨fun d hd => ?_, fun hi => ⟨xs, q, by rw [← r.length, hi]; exact Nat.le_refl _⟩⟩
  obtain ⟨v, hv, rv⟩ := r.get hd
  refine ⟨⟨xs, v, q, hv⟩, fun x H' y => ?_⟩
  obtain ⟨rfl, y⟩ := y
  have e := y xs q
  rw [hv] at e
  cases e
  exact ⟨.refl _, rv⟩
theorem itOk_t (h : ∀ H, Ev H → SqT C.K H a xs ∧ RpA C H ds xs) : ItOk C Ev (Itt C.K a) ds := fun H ev i => by
  obtain ⟨q, r⟩ := h H ev
  refine ⟨fun d hd => ?_, fun hi => ⟨xs, q, by rw [← r.length, hi]; exact Nat.le_refl _⟩⟩
  obtain ⟨v, hv, rv⟩ := r.get hd
  refine ⟨⟨xs, v, q, hv⟩, fun x H' y => ?_⟩
  obtain ⟨rfl, y⟩ := y
  have e := y xs q
  rw [hv] at e
  cases e
  exact ⟨.refl _, rv⟩
end
def seqS : W → Option (List PD)
  | .py (.list ds) => some ds
  | .py (.tuple ds) => some ds
  | _ => none
def seqB : W → Option (List PD)
  | .py (.list ds) => some ds
  | .py (.tuple ds) => some ds
  | .brw ds => some ds
  | _ => none
def dSeqS (a : Fm → M W) : Fm → M (List PD) := fun ρ => bnd (a ρ) fun x => lft fun _ => seqS x
def dSeqB (a : Fm → M W) : Fm → M (List PD) := fun ρ => bnd (a ρ) fun x => lft fun _ => seqB x
section
variable {X : Cx} {EE : EW} {tg e : Expr} {da : Fm → M W}
theorem mis_seq (h : ME X EE e da) : MIS X EE tg e (dSeqS da) := by
  refine PI.weak (pi_seq h) fun σ H R q => ?_
  obtain ⟨φ, ρ, G, g, e, q⟩ := q
  refine ⟨φ, ρ, G, g, e, (endsE.bnd q).mono fun x G1 φ1 H1 x1 g1 k v r1 => ?_⟩
  obtain ⟨ds, hd, k⟩ := endsE.lft k
  have kk := k φ1 H1 (.refl _ _) g1
  unfold seqS at hd
  split at hd
  · cases hd
    obtain ⟨a, xs, rfl, f, r⟩ := rw_list.mp r1
    exact ⟨a, rfl, .inl ⟨⟨xs, f.sq⟩, kk _ (itOk_l fun H2 e2 => ⟨(f.kp e2).sq, RpA.kp e2 _ r⟩)⟩⟩
  · cases hd
    obtain ⟨a, xs, rfl, f, r⟩ := rw_tuple.mp r1
    exact ⟨a, rfl, .inr ⟨⟨xs, f⟩, kk _ (itOk_t fun H2 e2 => ⟨sqT_kp e2 f, RpA.kp e2 _ r⟩)⟩⟩
  · cases hd
theorem mi_seq (h : ME X EE e da) : MI X EE tg e (dSeqB da) := by
  refine PI.weak (pi_seq h) fun σ H R q => ?_
  obtain ⟨φ, ρ, G, g, e, q⟩ := q
  refine ⟨φ, ρ, G, g, e, (endsE.bnd q).mono fun x G1 φ1 H1 x1 g1 k v r1 => ?_⟩
  obtain ⟨ds, hd, k⟩ := endsE.lft k
  have kk := k φ1 H1 (.refl _ _) g1
  unfold seqB at hd
  split at hd
  · cases hd
    obtain ⟨a, xs, rfl, f, r⟩ := rw_list.mp r1
    exact ⟨a, rfl, .inl ⟨⟨xs, f.sq⟩, kk _ (itOk_l fun H2 ⟨_, e2⟩ => ⟨(f.kp e2.kp).sq, RpA.kp e2.kp _ r⟩)⟩⟩
  · cases hd
    obtain ⟨a, xs, rfl, f, r⟩ := rw_tuple.mp r1
    exact ⟨a, rfl, .inr ⟨⟨xs, f⟩, kk _ (itOk_t fun H2 ⟨_, e2⟩ => ⟨sqT_kp e2.kp f, RpA.kp e2.kp _ r⟩)⟩⟩
  · cases hd
    obtain ⟨a, xs, rfl, f, nm, r⟩ := r1
    refine ⟨a, rfl, .inl ⟨⟨xs, .inl f⟩, kk _ (itOk_l fun H2 ⟨_, e2⟩ => ⟨.inl ?_, RpA.kp e2.kp _ r⟩)⟩⟩
    rcases f with f | ⟨o, f⟩
    · exact .inl (e2.keep _ _ f nm)
    · exact .inr ⟨o, e2.kp.frz _ _ _ f⟩
  · cases hd
end
/-- lo, lo + c, .. (n of them) -/
def rangeP (lo c : Int) (n : Nat) : List PD := (List.range n).map fun i => .int (lo + (i : Nat) * c)
theorem rangeP_length {lo c : Int} {n : Nat} : (rangeP lo c n).length = n := by simp [rangeP]
theorem rangeP_get {lo c : Int} {n i : Nat} {d : PD} (h : (rangeP lo c n)[i]? = some d) : i < n ∧ d = .int (lo + (i : Nat) * c) := by
  unfold rangeP at h
  rw [List.getElem?_map] at h
  obtain ⟨j, hj, rfl⟩ := Option.map_eq_some_iff.mp h
  obtain ⟨h1, h2⟩ := List.getElem?_eq_some_iff.mp hj
  rw [List.length_range] at h1
  rw [List.getElem_range] at h2
  exact ⟨h1, by rw [h2]⟩
theorem itOk_r {C : C0} {Ev : Hp → Prop} {lo : Int} {n : Nat} : ItOk C Ev (Itr lo n) (rangeP lo 1 n) := fun H ev i => by
  refine ⟨fun d hd => ?_, fun hi => by rw [rangeP_length] at hi; exact Nat.le_of_eq hi.symm⟩
  obtain ⟨h1, rfl⟩ := rangeP_get hd
  refine ⟨h1, fun x H' y => ?_⟩
  obtain ⟨rfl, rfl⟩ := y
  exact ⟨.refl _, rp_int.mpr (by rw [Int.mul_one])⟩
theorem itOk_c {C : C0} {Ev : Hp → Prop} {lo c : Int} {n : Nat} : ItOk C Ev (Itc lo c n) (rangeP lo c n) := fun H ev i => by
  refine ⟨fun d hd => ?_, fun hi => by rw [rangeP_length] at hi; exact Nat.le_of_eq hi.symm⟩
  obtain ⟨h1, rfl⟩ := rangeP_get hd
  refine ⟨h1, fun x H' y => ?_⟩
  obtain ⟨rfl, rfl⟩ := y
  exact ⟨.refl _, rp_int.mpr rfl⟩
/-- an end of a range -/
def endOk (i : Int) : Bool := decide (-4611686018427387904 ≤ i) && decide (i < 4611686018427387904)
theorem endOk_ok {i : Int} (h : endOk i = true) : -(2 ^ 62) ≤ i ∧ i < 2 ^ 62 := by
  unfold endOk at h
  simp only [Bool.and_eq_true, decide_eq_true_eq] at h
  omega
def rng1 : List W → Option (List PD)
  | [.py (.int j)] => if endOk j = true then some (rangeP 0 1 j.toNat) else none
  | _ => none
def rng2 : List W → Option (List PD)
  | [.py (.int i), .py (.int j)] => if (endOk i && endOk j) = true then some (rangeP i 1 (j - i).toNat) else none
  | _ => none
def rng3 : List W → Option (List PD)
  | [.py (.int i), .py (.int j), .py (.int c)] => if (decide (c ≠ 0) && decide (c.natAbs < 1073741824) && Builtin.Range.small i j c) = true then some (rangeP i c (Builtin.Range.rangeSize i j c).toNat) else none
  | _ => none
def dRng (f : List W → Option (List PD)) (as : Fm → M (List W)) : Fm → M (List PD) := fun ρ => bnd (as ρ) fun ws => lft fun _ => f ws
theorem rwa1 {C : C0} {φ : Ph} {H : Hp} {a : W} {vs : List V} (h : RWA C φ H [a] vs) : ∃ v, vs = [v] ∧ RW C φ H a v := by
  obtain ⟨v, r, rfl, h1, h2⟩ := h
  rw [show r = [] from h2]
  exact ⟨v, rfl, h1⟩
theorem rwa2 {C : C0} {φ : Ph} {H : Hp} {a b : W} {vs : List V} (h : RWA C φ H [a, b] vs) : ∃ v u, vs = [v, u] ∧ RW C φ H a v ∧ RW C φ H b u := by
  obtain ⟨v, r, rfl, h1, h2⟩ := h
  obtain ⟨u, rfl, h3⟩ := rwa1 h2
  exact ⟨v, u, rfl, h1, h3⟩
theorem rwa3 {C : C0} {φ : Ph} {H : Hp} {a b c : W} {vs : List V} (h : RWA C φ H [a, b, c] vs) : ∃ v u t, vs = [v, u, t] ∧ RW C φ H a v ∧ RW C φ H b u ∧ RW C φ H c t := by
  obtain ⟨v, r, rfl, h1, h2⟩ := h
  obtain ⟨u, t, rfl, h3, h4⟩ := rwa2 h2
  exact ⟨v, u, t, rfl, h1, h3, h4⟩
section
variable {X : Cx} {EE : EW} {tg a b c : Expr} {dr : Fm → M (List W)} {p pos : Pos}
theorem mis_range1 (hm : X.mg "range" = none) (ha : MA X EE [a] dr) (hg : Gl X "range" := by rfl) (hs : starEach [a] X.env = [(false, eval a X.env)] := by rfl) : MIS X EE tg (.Call (.Name "range" p) [a] [] pos) (dRng rng1 dr) := by
  refine PI.weak (pi_range1 hg hm ha hs) fun σ H R q => ?_
  obtain ⟨φ, ρ, G, g, e, q⟩ := q
  refine ⟨φ, ρ, G, g, e, (endsE.bnd q).mono fun ws G1 φ1 H1 x1 g1 k vs r1 => ?_⟩
  obtain ⟨ds, hd, k⟩ := endsE.lft k
  have kk := k φ1 H1 (.refl _ _) g1
  unfold rng1 at hd
  split at hd
  · split at hd
    · rename_i hj
      cases hd
      obtain ⟨v, rfl, rv⟩ := rwa1 r1
      exact ⟨_, by rw [rw_int.mp rv], (endOk_ok hj).1, (endOk_ok hj).2, kk _ itOk_r⟩
    · cases hd
  · cases hd
theorem mis_range2 (hm : X.mg "range" = none) (ha : MA X EE [a, b] dr) (hg : Gl X "range" := by rfl) (hs : starEach [a, b] X.env = [(false, eval a X.env), (false, eval b X.env)] := by rfl) (hs2 : starEach [b] X.env = [(false, eval b X.env)] := by rfl) :
    MIS X EE tg (.Call (.Name "range" p) [a, b] [] pos) (dRng rng2 dr) := by
  refine PI.weak (pi_range2 hg hm ha hs hs2) fun σ H R q => ?_
  obtain ⟨φ, ρ, G, g, e, q⟩ := q
  refine ⟨φ, ρ, G, g, e, (endsE.bnd q).mono fun ws G1 φ1 H1 x1 g1 k vs r1 => ?_⟩
  obtain ⟨ds, hd, k⟩ := endsE.lft k
  have kk := k φ1 H1 (.refl _ _) g1
  unfold rng2 at hd
  split at hd
  · split at hd
    · rename_i hj
      cases hd
      rw [Bool.and_eq_true] at hj
      obtain ⟨v, u, rfl, rv, ru⟩ := rwa2 r1
      exact ⟨_, _, by rw [rw_int.mp rv, rw_int.mp ru], ⟨(endOk_ok hj.1).1, (endOk_ok hj.1).2, (endOk_ok hj.2).1, (endOk_ok hj.2).2⟩, kk _ itOk_r⟩
    · cases hd
  · cases hd
theorem mis_range3 (hm : X.mg "range" = none) (ha : MA X EE [a, b, c] dr) (hg : Gl X "range" := by rfl) (hs : starEach [a, b, c] X.env = (false, eval a X.env) :: starEach [b, c] X.env := by rfl) (hpl : (backTo pos (starEach [b, c] X.env)).any (·.1) = false := by rfl) :
    MIS X EE tg (.Call (.Name "range" p) [a, b, c] [] pos) (dRng rng3 dr) := by
  refine PI.weak (pi_range3 hg hm ha hs hpl) fun σ H R q => ?_
  obtain ⟨φ, ρ, G, g, e, q⟩ := q
  refine ⟨φ, ρ, G, g, e, (endsE.bnd q).mono fun ws G1 φ1 H1 x1 g1 k vs r1 => ?_⟩
  obtain ⟨ds, hd, k⟩ := endsE.lft k
  have kk := k φ1 H1 (.refl _ _) g1
  unfold rng3 at hd
  split at hd
  · split at hd
    · rename_i hj
      cases hd
      simp only [Bool.and_eq_true, decide_eq_true_eq] at hj
      obtain ⟨v, u, t, rfl, rv, ru, rt⟩ := rwa3 r1
      exact ⟨_, _, _, _, by rw [rw_int.mp rv, rw_int.mp ru, rw_int.mp rt], ⟨hj.1.1, hj.1.2, hj.2, rangeSize_toNat _ _ _⟩, kk _ itOk_c⟩
    · cases hd
  · cases hd
end

/-! ### targets -/
def RelB (H0 : Hp) (ρ : Fm) (σ : L2.St) : Prop := ∀ (i : Nat) ds a, ρ[i]? = some (.own ds) → σ[i]? = some (some (.ref a)) → H0 a = none
def SameBut (ts : List Nat) (σ σ' : L2.St) : Prop := σ'.length = σ.length ∧ ∀ j : Nat, j ∉ ts → σ'[j]? = σ[j]?
theorem SameBut.refl (ts : List Nat) (σ : L2.St) : SameBut ts σ σ := ⟨rfl, fun _ _ => rfl⟩
theorem SameBut.trans {ts us : List Nat} {σ σ1 σ2 : L2.St} (a : SameBut ts σ σ1) (b : SameBut us σ1 σ2) : SameBut (ts ++ us) σ σ2 :=
  ⟨b.1.trans a.1, fun j hj => by
    rw [List.mem_append, not_or] at hj
    rw [b.2 j hj.2, a.2 j hj.1]⟩
theorem wipe_get {σ : L2.St} {j : Nat} : ∀ {vs : List Nat}, (wipe σ vs)[j]? = if j ∈ vs then (if j < σ.length then some none else none) else σ[j]?
  | [] => by simp [wipe]
  | v :: vs => by
    have ih := @wipe_get σ j vs
    show ((wipe σ vs).set v none)[j]? = _
    rw [List.getElem?_set, wipe_length, ih]
    by_cases h : v = j
    · subst h
      simp
    · rw [if_neg h]
      by_cases hm : j ∈ vs
      · simp [hm]
      · have : ¬ j ∈ v :: vs := by simp [hm, Ne.symm h]
        rw [if_neg hm, if_neg this]
theorem SameBut.wipe {ts vs : List Nat} {σ σ' : L2.St} (h : SameBut ts σ σ') (s : ∀ t ∈ ts, t ∈ vs) : L2.wipe σ' vs = L2.wipe σ vs := by
  refine List.ext_getElem? fun j => ?_
  rw [wipe_get, wipe_get, h.1]
  by_cases hj : j ∈ vs
  · rw [if_pos hj, if_pos hj]
  · rw [if_neg hj, if_neg hj, h.2 j fun z => hj (s j z)]
theorem wipe_but {σ : L2.St} {vs : List Nat} : SameBut vs σ (L2.wipe σ vs) := ⟨wipe_length _ _, fun j hj => by rw [wipe_get, if_neg hj]⟩
/-- what a target does to the frame -/
abbrev Bnd := W → Fm → Option Fm
def tMG (C : C0) (ts : List Nat) (b : Bnd) : TG := fun v σ H Q => ∃ φ ρ w ρ', RelE C φ ρ σ H ∧ RW C φ H w v ∧ b w ρ = some ρ' ∧
  ∀ σ', RelE C φ ρ' σ' H → SameBut ts σ σ' → (∀ H0, RelB H0 ρ σ → RelB H0 ρ' σ') → Q σ' H
def tMGs (C : C0) (ts : List Nat) (b : List PD → Fm → Option Fm) : TGs := fun vs σ H Q => ∃ φ ρ ds ρ', RelE C φ ρ σ H ∧ RpA C H ds vs ∧ b ds ρ = some ρ' ∧
  ∀ σ', RelE C φ ρ' σ' H → SameBut ts σ σ' → (∀ H0, RelB H0 ρ σ → RelB H0 ρ' σ') → Q σ' H
def MG (X : Cx) (tg : Expr) (ts : List Nat) (b : Bnd) : Prop := PG X tg (tMG (c0 X) ts b)
def MGs (X : Cx) (tgs : List Expr) (ts : List Nat) (b : List PD → Fm → Option Fm) : Prop := PGs X tgs (tMGs (c0 X) ts b)
theorem PG.weak {X : Cx} {e : Expr} {t t' : TG} (h : PG X e t) (w : ∀ v σ H Q, t' v σ H Q → t v σ H Q) : PG X e t' := ⟨fun pins s σ H v u Q I r q => h.run pins s σ H v u Q I r (w _ _ _ _ q)⟩
theorem PGs.weak {X : Cx} {e : List Expr} {t t' : TGs} (h : PGs X e t) (w : ∀ v σ H Q, t' v σ H Q → t v σ H Q) : PGs X e t' := ⟨fun pins s σ H v u Q I r q => h.run pins s σ H v u Q I r (w _ _ _ _ q)⟩
theorem set_rel {C : C0} {φ : Ph} {ρ : Fm} {σ : L2.St} {H : Hp} {i : Nat} {w : W} {v : V} (e : RelE C φ ρ σ H) (r : RW C φ H w v) (s : stab w = true) : RelE C φ (ρ.set i (.val w)) (σ.set i (some v)) H := by
  refine ⟨by rw [List.length_set, List.length_set, e.len], fun j x hx => ?_, fun j ds hx => ?_, fun j k dj dk a h1 h2 h3 h4 => ?_⟩
  · rw [List.getElem?_set] at hx ⊢
    by_cases h : i = j
    · subst h
      rw [if_pos rfl] at *
      split at hx
      · rename_i hi
        cases hx
        exact ⟨s, v, by rw [if_pos (by rw [← e.len]; exact hi)], r⟩
      · cases hx
    · rw [if_neg h] at hx ⊢
      exact e.val j x hx
  · rw [List.getElem?_set] at hx
    by_cases h : i = j
    · subst h
      rw [if_pos rfl] at hx
      split at hx <;> cases hx
    · rw [if_neg h] at hx
      obtain ⟨a, xs, e1, q⟩ := e.own j ds hx
      exact ⟨a, xs, by rw [List.getElem?_set_ne h]; exact e1, q⟩
  · have nj : i ≠ j := fun z => by
      subst z
      rw [List.getElem?_set, if_pos rfl] at h1
      split at h1 <;> cases h1
    have nk : i ≠ k := fun z => by
      subst z
      rw [List.getElem?_set, if_pos rfl] at h2
      split at h2 <;> cases h2
    rw [List.getElem?_set_ne nj] at h1 h3
    rw [List.getElem?_set_ne nk] at h2 h4
    exact e.sep j k dj dk a h1 h2 h3 h4
theorem set_relB {H0 : Hp} {ρ : Fm} {σ : L2.St} {i : Nat} {w : W} {v : V} (b : RelB H0 ρ σ) : RelB H0 (ρ.set i (.val w)) (σ.set i (some v)) := fun j ds a h1 h2 => by
  have nj : i ≠ j := fun z => by
    subst z
    rw [List.getElem?_set, if_pos rfl] at h1
    split at h1 <;> cases h1
  rw [List.getElem?_set_ne nj] at h1 h2
  exact b j ds a h1 h2
theorem set_but {σ : L2.St} {i : Nat} {v : Option V} : SameBut [i] σ (σ.set i v) := ⟨by rw [List.length_set], fun j hj => by
  rw [List.getElem?_set_ne fun z => hj (by rw [z]; exact List.mem_singleton.mpr rfl)]⟩
def bName (i : Nat) : Bnd := fun w ρ => if stab w = true then some (ρ.set i (.val w)) else none
def bNil : List PD → Fm → Option Fm
  | [], ρ => some ρ
  | _ :: _, _ => none
def bCons (b : Bnd) (r : List PD → Fm → Option Fm) : List PD → Fm → Option Fm
  | d :: ds, ρ => (b (.py d) ρ).bind (r ds)
  | [], _ => none
def bTup (n : Nat) (b : List PD → Fm → Option Fm) : Bnd := fun w ρ => match w with
  | .py (.tuple ds) => if ds.length = n then b ds ρ else none
  | _ => none
section
variable {X : Cx} {pos : Pos}
theorem mg_name (i : Nat) {x : Str} (hN : X.N.Nodup) (hi : X.N[i]? = some x := by rfl) (hx : Loc X.env.scope x := by first | exact Or.inl rfl | exact Or.inr rfl)
    (hf : X.fn x = true ∨ X.env.scope.names.lookup x = some .local := by first | exact .inl rfl | exact .inr rfl) : MG X (.Name x pos) [i] (bName i) := by
  refine PG.weak (pg_name (i := i) hN hi hx hf) fun v σ H Q h => ?_
  obtain ⟨φ, ρ, w, ρ', e, r, hb, k⟩ := h
  unfold bName at hb
  split at hb
  · rename_i hs
    cases hb
    exact k _ (set_rel e r hs) set_but fun H0 b => set_relB b
  · cases hb
theorem mgs_nil : MGs X [] [] bNil := by
  refine PGs.weak pgs_nil fun vs σ H Q h => ?_
  obtain ⟨φ, ρ, ds, ρ', e, r, hb, k⟩ := h
  cases ds with
  | nil =>
    cases hb
    exact ⟨rpA_nil.mp r, k σ e (.refl _ _) fun _ b => b⟩
  | cons d ds => cases hb
theorem mgs_cons {e : Expr} {es : List Expr} {ts us : List Nat} {b : Bnd} {r : List PD → Fm → Option Fm} (h1 : MG X e ts b) (h2 : MGs X es us r)
    (hs : (assignEach (e :: es) X.env).map (·.2) = assign e X.env :: (assignEach es X.env).map (·.2) := by rfl) : MGs X (e :: es) (ts ++ us) (bCons b r) := by
  refine PGs.weak (pgs_cons h1 h2 hs) fun vs σ H Q h => ?_
  obtain ⟨φ, ρ, ds, ρ', e, q, hb, k⟩ := h
  cases ds with
  | nil => cases hb
  | cons d ds =>
    obtain ⟨v, vr, rfl, q1, q2⟩ := rpA_cons.mp q
    obtain ⟨ρ1, hb1, hb2⟩ := Option.bind_eq_some_iff.mp hb
    refine ⟨v, vr, rfl, φ, ρ, .py d, ρ1, e, q1, hb1, fun σ1 e1 s1 b1 => ?_⟩
    exact ⟨φ, ρ1, ds, ρ', e1, q2, hb2, fun σ2 e2 s2 b2 => k σ2 e2 (s1.trans s2) fun H0 z => b2 H0 (b1 H0 z)⟩
theorem mg_tup {es : List Expr} {kk : Nat} {ts : List Nat} {b : List PD → Fm → Option Fm} {n : Nat} (hc : X.calm = true) (h : MGs X es ts b)
    (hn : (assignEach es X.env).length = n := by rfl) (hst : (assignEach es X.env).findIdx? (·.1) = none := by rfl) : MG X (.Tuple es kk pos) ts (bTup n b) := by
  refine PG.weak (pg_tup hc h hn hst) fun v σ H Q h => ?_
  obtain ⟨φ, ρ, w, ρ', e, r, hb, k⟩ := h
  unfold bTup at hb
  split at hb
  · split at hb
    · rename_i hl
      obtain ⟨a, xs, rfl, f, q⟩ := rw_tuple.mp r
      exact ⟨a, xs, rfl, f, by rw [← q.length]; exact hl, φ, ρ, _, ρ', e, q, hb, k⟩
    · cases hb
  · cases hb
end

/-! ### comprehensions -/
def wipeF (ρ : Fm) : List Nat → Fm
  | [] => ρ
  | v :: vs => (wipeF ρ vs).set v .none
theorem none_rel {C : C0} {φ : Ph} {ρ : Fm} {σ : L2.St} {H : Hp} {i : Nat} (e : RelE C φ ρ σ H) : RelE C φ (ρ.set i .none) (σ.set i none) H := by
  have out : ∀ (j : Nat) s, s ≠ Slot.none → (ρ.set i .none)[j]? = some s → i ≠ j ∧ ρ[j]? = some s := fun j s hs h => by
    have nj : i ≠ j := fun z => by
      subst z
      rw [List.getElem?_set, if_pos rfl] at h
      split at h
      · cases h; exact hs rfl
      · cases h
    rw [List.getElem?_set_ne nj] at h
    exact ⟨nj, h⟩
  refine ⟨by rw [List.length_set, List.length_set, e.len], fun j x hx => ?_, fun j ds hx => ?_, fun j k dj dk a h1 h2 h3 h4 => ?_⟩
  · obtain ⟨nj, hy⟩ := out j (.val x) (by intro z; cases z) hx
    rw [List.getElem?_set_ne nj]
    exact e.val j x hy
  · obtain ⟨nj, hy⟩ := out j (.own ds) (by intro z; cases z) hx
    rw [List.getElem?_set_ne nj]
    exact e.own j ds hy
  · obtain ⟨nj, g1⟩ := out j (.own dj) (by intro z; cases z) h1
    obtain ⟨nk, g2⟩ := out k (.own dk) (by intro z; cases z) h2
    rw [List.getElem?_set_ne nj] at h3
    rw [List.getElem?_set_ne nk] at h4
    exact e.sep j k dj dk a g1 g2 h3 h4
theorem wipe_rel {C : C0} {φ : Ph} {ρ : Fm} {σ : L2.St} {H : Hp} (e : RelE C φ ρ σ H) : ∀ vs : List Nat, RelE C φ (wipeF ρ vs) (wipe σ vs) H
  | [] => e
  | _ :: vs => none_rel (wipe_rel e vs)
/-- no exception may leave -/
def bndX {α β : Type} (m : M α) (f : α → M β) : M β := fun G => match m G with
  | .ok a G' => f a G'
  | _ => .bad
theorem bndX_ok {α β : Type} {m : M α} {f : α → M β} {G G' : Sto} {a : α} (h : m G = .ok a G') : bndX m f G = f a G' := by unfold bndX; rw [h]
theorem bndX_inv {α β : Type} {m : M α} {f : α → M β} {G G' : Sto} {b : β} (h : bndX m f G = .ok b G') : ∃ a G1, m G = .ok a G1 ∧ f a G1 = .ok b G' := by
  unfold bndX at h
  cases e : m G with
  | ok a G1 => rw [e] at h; exact ⟨a, G1, rfl, h⟩
  | exc x G1 => rw [e] at h; cases h
  | bad => rw [e] at h; cases h
theorem bndX_exc {α β : Type} {m : M α} {f : α → M β} {G G' : Sto} {x : Exn} (h : bndX m f G = .exc x G') : ∃ a G1, m G = .ok a G1 ∧ f a G1 = .exc x G' := by
  unfold bndX at h
  cases e : m G with
  | ok a G1 => rw [e] at h; exact ⟨a, G1, rfl, h⟩
  | exc x G1 => rw [e] at h; cases h
  | bad => rw [e] at h; cases h
def pyW : W → Option PD
  | .py d => some d
  | _ => none
def lcL (b : Bnd) (test : Fm → M Bool) (elt : Fm → M W) (ρ : Fm) : List PD → M (List PD)
  | [] => ret []
  | d :: ds => match b (.py d) ρ with
    | none => fun _ => .bad
    | some ρ1 => bndX (test ρ1) fun t => if t = true then bndX (elt ρ1) fun w => match pyW w with
        | some e => bndX (lcL b test elt ρ ds) fun r => ret (e :: r)
        | none => fun _ => .bad
      else lcL b test elt ρ ds
def dLc (it : Fm → M (List PD)) (vs : List Nat) (b : Bnd) (test : Fm → M Bool) (elt : Fm → M W) : Fm → M (List PD) := fun ρ => bnd (it ρ) fun ds => if ds.length ≤ 16777216 then lcL b test elt (wipeF ρ vs) ds else fun _ => .bad
def dYes : Fm → M Bool := fun _ => ret true
def MTs (X : Cx) (EE : EW) (ifs : List Expr) (den : Fm → M Bool) : Prop := PTs X ifs (tMT (c0 X) EE den)
theorem PTs.weak {X : Cx} {e : List Expr} {t t' : TT} (h : PTs X e t) (w : ∀ σ H Q, t' σ H Q → t σ H Q) : PTs X e t' := ⟨fun pins s σ H Q I q => h.run pins s σ H Q I (w _ _ _ q)⟩
theorem mts_nil {X : Cx} {EE : EW} : MTs X EE [] dYes := PTs.weak pts_nil fun σ H Q h => by
  obtain ⟨φ, ρ, G, g, e, h⟩ := h
  exact h φ H (.refl _ _) g
theorem mts_one {X : Cx} {EE : EW} {c : Expr} {dt : Fm → M Bool} (h : MT X EE c dt) : MTs X EE [c] dt := pts_one h
/-- what is left of a comprehension, from the turn at hand -/
structure LcAt (C : C0) (b : Bnd) (test : Fm → M Bool) (elt : Fm → M W) (ρ : Fm) (ds : List PD) (D : Addr) (φ1 : Ph) (H1 : Hp) (Q : VK) (i m : Nat) (H : Hp) : Prop where
  out : ∃ φ G acc xs, m = ds.length - i ∧ i ≤ ds.length ∧ acc.length ≤ i ∧ Ext φ1 H1 φ H ∧ RelG C φ G H ∧ H D = some (.lst xs) ∧ D ∉ φ.mu ∧ RpA C H acc xs ∧
    ∃ r G', lcL b test elt ρ (ds.drop i) G = .ok r G' ∧ ∀ φ' H' xs', Ext φ1 H1 φ' H' → RelG C φ' G' H' → H' D = some (.lst xs') → D ∉ φ'.mu → RpA C H' (acc ++ r) xs' → Q (.ref D) H'
theorem Ext.mut1 {φ φ' : Ph} {H H' : Hp} {D : Addr} {o : HO} (x : Ext φ H φ' H') (n : H D = none) : Ext φ H φ' (upd H' D o) :=
  ⟨x.pre, x.sub, x.new, fun b u h hm => by rw [upd_ne (ne_of_none h n)]; exact x.keep b u h hm, ⟨fun b xs h => by rw [upd_ne (ne_of_none h n)]; exact x.kp.tup b xs h, fun b p u h => by rw [upd_ne (ne_of_none h n)]; exact x.kp.frz b p u h⟩⟩
theorem kp_lst {H : Hp} {a : Addr} {xs ys : List V} (e : H a = some (.lst xs)) : Kp H (upd H a (.lst ys)) :=
  ⟨fun b zs h => by rw [upd_ne (fun z => by rw [z, e] at h; cases h)]; exact h, fun b p u h => by rw [upd_ne (fun z => by rw [z, e] at h; cases h)]; exact h⟩
theorem RelG.beside {C : C0} {φ : Ph} {G : Sto} {H : Hp} {D : Addr} {xs ys : List V} (g : RelG C φ G H) (e : H D = some (.lst xs)) (nm : D ∉ φ.mu) : RelG C φ G (upd H D (.lst ys)) :=
  g.kp (kp_lst e) fun b o hb h => by rw [upd_ne (fun z => nm (by rw [← z]; exact hb))]; exact h
theorem Ext.fresh {C : C0} {φ φ' : Ph} {G : Sto} {H H' : Hp} {a : Addr} (x : Ext φ H φ' H') (g : RelG C φ' G H') (n : H' a = none) : H a = none := by
  cases hp : H a with
  | none => rfl
  | some o =>
    by_cases hm : a ∈ φ.mu
    · obtain ⟨o', e', _⟩ := g.trk a (x.sub a hm)
      rw [n] at e'; cases e'
    · rw [x.keep a o hp hm] at n; cases n
theorem lc_weak {X : Cx} {EE : EW} {di : Fm → M (List PD)} {own : List (Str × Nat)} {ts : List Nat} {b : Bnd} {dt : Fm → M Bool} {de : Fm → M W} (hts : ∀ t ∈ ts, t ∈ own.map (·.2)) {σ : L2.St} {H : Hp} {Q : VK}
    (h : tMF (c0 X) EE (dLc di (own.map (·.2)) b dt de) σ H Q) : tLc (tMI (c0 X) EE di) (tMG (c0 X) ts b) (tMT (c0 X) EW0 dt) (tM (c0 X) EW0 de) (own.map (·.2)) σ H Q := by
  obtain ⟨φ, ρ, G, g, e, h⟩ := h
  refine ⟨φ, ρ, G, g, e, ?_⟩
  unfold dLc at h
  cases hd : di ρ G with
  | bad => unfold bnd at h; rw [hd] at h; exact h
  | exc x G1 => unfold bnd at h; rw [hd] at h; exact h
  | ok ds G1 =>
    rw [bnd_ok hd] at h
    intro φ1 H1 x1 g1 J ok1 D nD
    split at h
    case isFalse => exact h.elim
    rename_i hz
    have e1 := wipe_rel (e.ext x1) (own.map (·.2))
    have nDm := g1.new_not nD
    refine ⟨LcAt (c0 X) b dt de (wipeF ρ (own.map (·.2))) ds D φ1 H1 Q, ⟨ds.length, ⟨φ1, G1, [], [], by simp, Nat.zero_le _, Nat.le_refl _, .laid nD, g1.laid nD, upd_same, nDm, .nil, ?_⟩⟩, fun i m H2 w => ?_⟩
    · rw [List.drop_zero]
      cases hr : lcL b dt de (wipeF ρ (own.map (·.2))) ds G1 with
      | bad => rw [hr] at h; exact h.elim
      | exc x G2 =>
        exfalso
        have nox : ∀ (ds : List PD) (G : Sto) x G2, lcL b dt de (wipeF ρ (own.map (·.2))) ds G ≠ .exc x G2 := by
          intro ds
          induction ds with
          | nil => intro G x G2 z; exact nomatch z
          | cons d ds ih =>
            intro G x G2 z
            unfold lcL at z
            cases hb : b (.py d) (wipeF ρ (own.map (·.2))) with
            | none => rw [hb] at z; exact nomatch z
            | some ρ1 =>
              rw [hb] at z
              obtain ⟨t, G3, _, z⟩ := bndX_exc z
              cases t with
              | true =>
                rw [if_pos rfl] at z
                obtain ⟨w, G4, _, z⟩ := bndX_exc z
                cases hw : pyW w with
                | none => rw [hw] at z; exact nomatch z
                | some ew =>
                  rw [hw] at z
                  obtain ⟨r, G5, _, z⟩ := bndX_exc z
                  exact nomatch z
              | false =>
                rw [if_neg Bool.false_ne_true] at z
                exact ih _ _ _ z
        exact nox ds G1 x G2 hr
      | ok r G2 =>
        rw [hr] at h
        refine ⟨r, G2, rfl, fun φ' H' xs' x2 g2 eD nm2 rr => ?_⟩
        exact h φ' H' (x1.trans x2) g2 D xs' (x1.fresh g1 nD) eD nm2 (by simpa using rr)
    · obtain ⟨φ2, G2, acc, xs, hm, hi2, hacc, x2, g2, eD, nm2, ra, r, G', hr, fin⟩ := w.out
      have okI := ok1 H2 ⟨φ2, x2⟩ i
      by_cases hlt : i < ds.length
      · have hdi : ds[i]? = some ds[i] := List.getElem?_eq_getElem hlt
        obtain ⟨go, yl⟩ := okI.1 _ hdi
        refine .inr ⟨go, LcAt (c0 X) b dt de (wipeF ρ (own.map (·.2))) ds D φ1 H1 Q (i + 1) (ds.length - (i + 1)), fun H' w' => ⟨_, by omega, w'⟩, fun x H' y => ?_⟩
        obtain ⟨gr, rx⟩ := yl x H' y
        have x2' : Ext φ2 H2 φ2 H' := gr.ext
        have g2' : RelG (c0 X) φ2 G2 H' := g2.kp x2'.kp fun a o _ h => gr a o h
        rw [List.drop_eq_getElem_cons hlt] at hr
        unfold lcL at hr
        cases hb : b (.py ds[i]) (wipeF ρ (own.map (·.2))) with
        | none => rw [hb] at hr; cases hr
        | some ρ1 =>
        rw [hb] at hr
        replace hr := id hr
        refine ⟨φ2, _, .py ds[i], ρ1, (e1.ext x2).ext x2', rx, hb, fun σ2 e2 s2 _ => ⟨(wipe_but.trans s2).wipe (fun t h => (List.mem_append.mp h).elim id (hts t)), ?_⟩⟩
        obtain ⟨t, G3, ht3, hr⟩ := bndX_inv hr
        refine ⟨φ2, ρ1, G2, g2', e2, ?_⟩
        rw [ht3]
        intro φ3 H3 x3 g3
        have eD3 : H3 D = some (.lst xs) := x3.keep _ _ (gr _ _ eD) nm2
        have nm3 : D ∉ φ3.mu := fun z => by
          rcases x3.new D z with z | z
          · exact nm2 z
          · rw [gr _ _ eD] at z; cases z
        have ra3 : RpA (c0 X) H3 acc xs := RpA.kp x3.kp _ (RpA.kp x2'.kp _ ra)
        have xx3 : Ext φ1 H1 φ3 H3 := (x2.trans x2').trans x3
        cases t with
        | false =>
          rw [if_neg Bool.false_ne_true] at hr
          refine (if_neg Bool.false_ne_true : (if false = true then _ else _) = _).mpr ?_
          exact ⟨φ3, G3, acc, xs, rfl, hlt, Nat.le_succ_of_le hacc, xx3, g3, eD3, nm3, ra3, r, G', hr, fin⟩
        | true =>
          rw [if_pos rfl] at hr
          refine (if_pos rfl : (if true = true then _ else _) = _).mpr ?_
          obtain ⟨w, G4, he4, hr⟩ := bndX_inv hr
          cases hw : pyW w with
          | none => rw [hw] at hr; cases hr
          | some ew =>
          rw [hw] at hr
          obtain ⟨r', G5, hr5, hr⟩ := bndX_inv hr
          cases hr
          refine ⟨φ3, ρ1, G3, g3, e2.ext x3, ?_⟩
          rw [he4]
          intro φ4 H4 x4 g4 y ry
          have eD4 : H4 D = some (.lst xs) := x4.keep _ _ eD3 nm3
          have nm4 : D ∉ φ4.mu := fun z => by
            rcases x4.new D z with z | z
            · exact nm3 z
            · rw [eD3] at z; cases z
          have ra4 : RpA (c0 X) H4 acc xs := RpA.kp x4.kp _ ra3
          have ry' : Rp (c0 X) H4 ew y := by
            unfold pyW at hw
            split at hw
            · cases hw; exact ry
            · cases hw
          have ky := kp_lst (ys := xs ++ [y]) eD4
          refine ⟨xs, eD4, ?_, ⟨φ4, G4, acc ++ [ew], xs ++ [y], rfl, hlt, ?_, (xx3.trans x4).mut1 nD, g4.beside eD4 nm4, upd_same, nm4, (RpA.kp ky _ ra4).append (.cons (Rp.kp ky _ ry') .nil), r', _, hr5, fun φ' H' xs' x5 g5 eD5 nm5 rr => ?_⟩⟩
          · rw [← ra4.length, sizeLine_eq]; omega
          · rw [List.length_append, List.length_singleton]; omega
          · exact fin φ' H' xs' x5 g5 eD5 nm5 (by rw [List.append_assoc] at rr; exact rr)
      · have hie : i = ds.length := by omega
        refine .inl ⟨okI.2 hie, ?_⟩
        rw [hie, List.drop_length] at hr
        cases hr
        exact fin φ2 H2 xs x2 g2 eD nm2 (by simpa using ra)
theorem mf_lc {X : Cx} {EE : EW} {elt tg iter : Expr} {ifs : List Expr} {scope : Scope} {own : List (Str × Nat)} {pos : Pos} {di : Fm → M (List PD)} {ts : List Nat} {b : Bnd} {dt : Fm → M Bool} {de : Fm → M W}
    (hc : X.calm = true) (hN : X.N.Nodup) (hi : MI X EE tg iter di) (ok : BlkOk X.N X.env.scope scope own)
    (hg : ∀ (s : Shared) (H : Hp) (C : Addr) (cl : List (Str × Addr)) (fp : List Addr), MG (X.blk s H scope (compEnvC scope cl C X.env) fp) tg ts b)
    (ht : ∀ (s : Shared) (H : Hp) (C : Addr) (cl : List (Str × Addr)) (fp : List Addr), MTs (X.blk s H scope (compEnvC scope cl C X.env) fp) EW0 ifs dt)
    (he : ∀ (s : Shared) (H : Hp) (C : Addr) (cl : List (Str × Addr)) (fp : List Addr), ME (X.blk s H scope (compEnvC scope cl C X.env) fp) EW0 elt de)
    (hts : ∀ t ∈ ts, t ∈ own.map (·.2)) (hs : ∀ x, foldedSetIterable iter X.env x = pure x := by intro _; rfl) :
    MF X EE (.ListComp elt [⟨tg, iter, ifs, 0⟩] scope pos) (dLc di (own.map (·.2)) b dt de) :=
  PE.weak (pe_lc (g := tMG (c0 X) ts b) (tt := tMT (c0 X) EW0 dt) (te := tM (c0 X) EW0 de) hc hN hi ok (fun s H C cl fp => hg s H C cl fp) (fun s H C cl fp => ht s H C cl fp) (fun s H C cl fp => he s H C cl fp) hs) fun σ H Q h => lc_weak hts h
end DL

set_option maxHeartbeats 1000000
/-! DL5: calls: own defs, builtins. -/
namespace DL
open PySem PySem.Spec PyProof.Rows L2

/-! ### own defs -/
/-- a def's promise, by its denotation on the arguments -/
def spD (C : C0) (n : Nat) (m : List W → M W) : Sp := fun vs H Q _ => ∃ φ G ws, RelG C φ G H ∧ RWA C φ H ws vs ∧ ws.all stab = true ∧ ws.length = n ∧
  ∃ w G', m ws G = .ok w G' ∧ ∀ φ' H' v, Ext φ H φ' H' → RelG C φ' G' H' → RW C φ' H' w v → Q v H'
theorem spD_len {C : C0} {n : Nat} {m : List W → M W} {ps : List Str} (hl : ps.length = n) : ∀ vs H Q E, spD C n m vs H Q E → vs.length = ps.length := by
  rintro vs H Q E ⟨φ, G, ws, g, r, s, l, _⟩
  rw [← r.length, l, hl]
def callD (n : Nat) (m : List W → M W) (ws : List W) : M W := if ws.all stab = true ∧ ws.length = n then bndX (m ws) ret else fun _ => .bad
def dCall (n : Nat) (m : List W → M W) (as : Fm → M (List W)) : Fm → M W := fun ρ => bnd (as ρ) (callD n m)
section
variable {X : Cx} {EE : EW} {E : XK} {k n : Nat} {f : Addr} {fd : FuncData} {ps : List Str} {m : List W → M W} {x : Str} {p pos : Pos} {e : Expr} {es : List Expr} {dr : Fm → M (List W)}
theorem callD_ok {C : C0} {φ : Ph} {ρ : Fm} {σ : L2.St} {G : Sto} {H : Hp} {ws : List W} {vs : List V} {Q : VK} (g : RelG C φ G H) (r : RWA C φ H ws vs) (h : endsE C EE φ ρ σ H (fun w _ φ' H' => ∀ v, RW C φ' H' w v → Q v H') (callD n m ws G)) : spD C n m vs H Q E := by
  unfold callD at h
  split at h
  · rename_i hs
    cases hm : m ws G with
    | bad => unfold bndX at h; rw [hm] at h; exact h.elim
    | exc x G' => unfold bndX at h; rw [hm] at h; exact h.elim
    | ok w G' =>
      rw [bndX_ok hm] at h
      exact ⟨φ, G, ws, g, r, hs.1, hs.2, w, G', hm, fun φ' H' v x1 g1 rv => h φ' H' x1 g1 v rv⟩
  · exact h.elim
theorem me_call (F : FnOk X.prog X.w X.K X.mg X.base CX0 k f fd ps (spD (c0 X) n m)) (hr : Room k X.A) (hg : Gl X x) (hm : X.mg x = some (.ref f)) (hk : PySem.W.keepIn X.K (.ref f) = true) (hb : Binds X.K fd ps [])
    (ha : MA X EE (e :: es) dr) (hdb : (x == ("__debug__" : Str)) = false := by decide) (he : starEach (e :: es) X.env = (false, eval e X.env) :: starEach es X.env := by rfl) (hpl : (backTo pos (starEach es X.env)).any (·.1) = false := by rfl) :
    ME X EE (.Call (.Name x p) (e :: es) [] pos) (dCall n m dr) := by
  refine PE.weak (pe_call (E := E0) F hr hg hm hk hb .nil pass0 ha hdb he hpl) fun σ H Q h => ?_
  obtain ⟨φ, ρ, G, g, e, h⟩ := h
  refine ⟨φ, ρ, G, g, e, (endsE.bnd h).mono fun ws G1 φ1 H1 x1 g1 k vs r1 => ?_⟩
  show spD (c0 X) n m (vs ++ []) H1 Q E0
  rw [List.append_nil]
  exact callD_ok g1 r1 k
theorem me_call0 (F : FnOk X.prog X.w X.K X.mg X.base CX0 k f fd ps (spD (c0 X) n m)) (hr : Room k X.A) (hg : Gl X x) (hm : X.mg x = some (.ref f)) (hk : PySem.W.keepIn X.K (.ref f) = true) (hb : Binds X.K fd ps [])
    (hdb : (x == ("__debug__" : Str)) = false := by decide) :
    ME X EE (.Call (.Name x p) [] [] pos) (dCall n m dNil) := by
  refine PE.weak (pe_call0 (E := E0) F hr hg hm hk hb .nil pass0 hdb) fun σ H Q h => ?_
  obtain ⟨φ, ρ, G, g, e, h⟩ := h
  exact callD_ok (E := E0) (vs := []) g (show RWA (c0 X) φ H [] [] from rfl) h
end

/-! ### builtins -/
def dBi (F : List W → Sto → Option W) (as : Fm → M (List W)) : Fm → M W := fun ρ => bnd (as ρ) fun ws => lft (F ws)
section
variable {X : Cx} {EE : EW} {x : Str} {p pos : Pos} {e : Expr} {es : List Expr} {dr : Fm → M (List W)} {id T : String} {r : List V → Hp → VK → Prop} {F : List W → Sto → Option W}
theorem cb_weak {C : C0} (hl : LiftN C r F) {t : TA} {σ : L2.St} {H : Hp} {Q : VK} (w : ∀ Q, tMA C EE dr σ H Q → t σ H Q) (h : tM C EE (dBi F dr) σ H Q) : tCB r t σ H (fz Q) := by
  obtain ⟨φ, ρ, G, g, e, h⟩ := h
  refine w _ ⟨φ, ρ, G, g, e, (endsE.bnd h).mono fun ws G1 φ1 H1 x1 g1 k vs r1 => ?_⟩
  obtain ⟨w, hw, k⟩ := endsE.lft k
  exact hl φ1 G1 H1 vs ws w Q g1 r1 hw k
theorem me_bi (hc : CallR X (.builtin id) r) (hl : LiftN (c0 X) r F) (hm : X.mg x = none) (ha : MA X EE (e :: es) dr) (hg : Gl X x := by rfl) (hv : bootBuiltins x = some (.builtin id) := by rfl) (hn : x ≠ "__name__" := by decide) (hdb : (x == ("__debug__" : Str)) = false := by decide)
    (he : starEach (e :: es) X.env = (false, eval e X.env) :: starEach es X.env := by rfl) (hpl : (backTo pos (starEach es X.env)).any (·.1) = false := by rfl) : ME X EE (.Call (.Name x p) (e :: es) [] pos) (dBi F dr) :=
  PE.weak (PE.fz (pe_callB hc hg hm hv ha hn hdb he hpl)) fun _ _ _ h => cb_weak hl (fun _ q => q) h
theorem me_ty (hc : CallR X (.type T) r) (hl : LiftN (c0 X) r F) (hm : X.mg x = none) (ha : MA X EE (e :: es) dr) (hg : Gl X x := by rfl) (hv : bootBuiltins x = some (.type T) := by rfl) (hn : x ≠ "__name__" := by decide) (hdb : (x == ("__debug__" : Str)) = false := by decide)
    (he : starEach (e :: es) X.env = (false, eval e X.env) :: starEach es X.env := by rfl) (hpl : (backTo pos (starEach es X.env)).any (·.1) = false := by rfl) : ME X EE (.Call (.Name x p) (e :: es) [] pos) (dBi F dr) :=
  PE.weak (PE.fz (pe_callTy hc hg hm hv ha hn hdb he hpl)) fun _ _ _ h => cb_weak hl (fun _ q => q) h
end
/-- a list, as it may be read: the script too -/
def lsqOf (a : W) (G : Sto) : Option (List PD) := match a with
  | .scr ds => some ds
  | a => lstOf a G
theorem lsqOf_sq {C : C0} {φ : Ph} {G : Sto} {H : Hp} {a : W} {v : V} {ds : List PD} (g : RelG C φ G H) (r : RW C φ H a v) (h : lsqOf a G = some ds) : ∃ p xs, v = .ref p ∧ SqL C.K H p xs ∧ RpA C H ds xs := by
  unfold lsqOf at h
  split at h
  · cases h
    obtain ⟨p, xs, e, f, q⟩ := r
    exact ⟨p, xs, e, f.elim FzL.sq .inr, q⟩
  · obtain ⟨p, xs, e, f, q⟩ := lstOf_rd g r h
    exact ⟨p, xs, e, .inl f, q⟩
/-! len -/
def lenF (ws : List W) (G : Sto) : Option W := match ws with
  | [a] => match a with
    | .py (.str x) => if x.length ≤ 16777216 then some (.py (.int x.length)) else none
    | .py (.tuple ds) => some (.py (.int ds.length))
    | a => (lsqOf a G).map fun ds => .py (.int ds.length)
  | _ => none
theorem lift_len {C : C0} : LiftN C (fun xs H Q => ∃ x n, xs = [x] ∧ LenV C.K x H n ∧ Q (.int n) H) lenF := by
  intro φ G H xs as c Q g ra h k
  unfold lenF at h
  split at h
  · rename_i a
    obtain ⟨v, rfl, r1⟩ := rwa1 ra
    split at h
    · split at h
      · rename_i hz
        cases h
        refine ⟨v, _, rfl, ?_, k.now g (rw_int.mpr rfl)⟩
        rw [rw_str.mp r1]
        exact ⟨by rw [sizeLine_eq]; exact hz, rfl⟩
      · cases h
    · cases h
      obtain ⟨p, us, rfl, f, q⟩ := rw_tuple.mp r1
      exact ⟨_, _, rfl, .inr ⟨us, f, q.length⟩, k.now g (rw_int.mpr rfl)⟩
    · obtain ⟨ds, hd, rfl⟩ := Option.map_eq_some_iff.mp h
      obtain ⟨p, us, rfl, f, q⟩ := lsqOf_sq g r1 hd
      exact ⟨_, _, rfl, .inl ⟨us, f, q.length⟩, k.now g (rw_int.mpr rfl)⟩
  · cases h
/-! ints -/
def int1F (f : Int → Int) (ws : List W) (_ : Sto) : Option W := match ws with
  | [.py (.int i)] => some (.py (.int (f i)))
  | _ => none
def int2F (f : Int → Int → Int) (ws : List W) (_ : Sto) : Option W := match ws with
  | [.py (.int i), .py (.int j)] => some (.py (.int (f i j)))
  | _ => none
theorem lift_int1 {C : C0} {f : Int → Int} : LiftN C (fun xs H Q => ∃ i, xs = [.int i] ∧ Q (.int (f i)) H) (int1F f) := by
  intro φ G H xs as c Q g ra h k
  unfold int1F at h
  split at h
  · cases h
    obtain ⟨v, rfl, r1⟩ := rwa1 ra
    exact ⟨_, by rw [rw_int.mp r1], k.now g (rw_int.mpr rfl)⟩
  · cases h
theorem lift_int2 {C : C0} {f : Int → Int → Int} : LiftN C (fun xs H Q => ∃ i j, xs = [.int i, .int j] ∧ Q (.int (f i j)) H) (int2F f) := by
  intro φ G H xs as c Q g ra h k
  unfold int2F at h
  split at h
  · cases h
    obtain ⟨v, u, rfl, r1, r2⟩ := rwa2 ra
    exact ⟨_, _, by rw [rw_int.mp r1, rw_int.mp r2], k.now g (rw_int.mpr rfl)⟩
  · cases h
def absF := int1F fun i => if i < 0 then -i else i
def max2F := int2F fun i j => if j > i then j else i
def min2F := int2F fun i j => if j < i then j else i
/-- int(x) -/
def intF (ws : List W) (_ : Sto) : Option W := match ws with
  | [.py (.int i)] => some (.py (.int i))
  | [.py (.bool b)] => some (.py (.int (if b then 1 else 0)))
  | _ => none
theorem lift_intF {C : C0} : LiftN C (fun xs H Q => (∃ i, xs = [.int i] ∧ Q (.int i) H) ∨ ∃ k, xs = [.bl k] ∧ Q (.int (if k then 1 else 0)) H) intF := by
  intro φ G H xs as c Q g ra h k
  unfold intF at h
  split at h
  · cases h
    obtain ⟨v, rfl, r1⟩ := rwa1 ra
    exact .inl ⟨_, by rw [rw_int.mp r1], k.now g (rw_int.mpr rfl)⟩
  · cases h
    obtain ⟨v, rfl, r1⟩ := rwa1 ra
    exact .inr ⟨_, by rw [rw_bool.mp r1], k.now g (rw_int.mpr rfl)⟩
  · cases h
/-! lists of ints, of truths -/
def intsOf : List PD → Option (List Int)
  | [] => some []
  | .int i :: r => (intsOf r).map (i :: ·)
  | _ :: _ => none
def boolsOf : List PD → Option (List Bool)
  | [] => some []
  | .bool i :: r => (boolsOf r).map (i :: ·)
  | _ :: _ => none
theorem intsOf_map : ∀ ns : List Int, intsOf (ns.map PyData.int) = some ns
  | [] => rfl
  | n :: ns => by rw [List.map_cons]; unfold intsOf; rw [intsOf_map ns]; rfl
theorem boolsOf_map : ∀ ns : List Bool, boolsOf (ns.map PyData.bool) = some ns
  | [] => rfl
  | n :: ns => by rw [List.map_cons]; unfold boolsOf; rw [boolsOf_map ns]; rfl
theorem intsOf_rp {C : C0} {H : Hp} : ∀ {ds : List PD} {ns : List Int} {xs : List V}, intsOf ds = some ns → RpA C H ds xs → xs = ns.map V.int
  | [], _, _, e, r => by cases e; exact rpA_nil.mp r
  | .int i :: ds, _, _, e, r => by
    unfold intsOf at e
    obtain ⟨ms, e1, rfl⟩ := Option.map_eq_some_iff.mp e
    obtain ⟨v, vr, rfl, q1, q2⟩ := rpA_cons.mp r
    rw [rp_int.mp q1, intsOf_rp e1 q2]; rfl
  | .none :: _, _, _, e, _ => nomatch e
  | .bool _ :: _, _, _, e, _ => nomatch e
  | .str _ :: _, _, _, e, _ => nomatch e
  | .list _ :: _, _, _, e, _ => nomatch e
  | .tuple _ :: _, _, _, e, _ => nomatch e
  | .dict _ :: _, _, _, e, _ => nomatch e
theorem boolsOf_rp {C : C0} {H : Hp} : ∀ {ds : List PD} {ns : List Bool} {xs : List V}, boolsOf ds = some ns → RpA C H ds xs → xs = ns.map V.bl
  | [], _, _, e, r => by cases e; exact rpA_nil.mp r
  | .bool i :: ds, _, _, e, r => by
    unfold boolsOf at e
    obtain ⟨ms, e1, rfl⟩ := Option.map_eq_some_iff.mp e
    obtain ⟨v, vr, rfl, q1, q2⟩ := rpA_cons.mp r
    rw [rp_bool.mp q1, boolsOf_rp e1 q2]; rfl
  | .none :: _, _, _, e, _ => nomatch e
  | .int _ :: _, _, _, e, _ => nomatch e
  | .str _ :: _, _, _, e, _ => nomatch e
  | .list _ :: _, _, _, e, _ => nomatch e
  | .tuple _ :: _, _, _, e, _ => nomatch e
  | .dict _ :: _, _, _, e, _ => nomatch e
def sumF (ws : List W) (G : Sto) : Option W := match ws with
  | [a] => ((lsqOf a G).bind intsOf).map fun ns => .py (.int ns.sum)
  | _ => none
def allF (ws : List W) (G : Sto) : Option W := match ws with
  | [a] => ((lsqOf a G).bind boolsOf).map fun ns => .py (.bool (ns.all id))
  | _ => none
def anyF (ws : List W) (G : Sto) : Option W := match ws with
  | [a] => ((lsqOf a G).bind boolsOf).map fun ns => .py (.bool (ns.any id))
  | _ => none
def maxI : List Int → Option Int
  | [] => none
  | n :: ns => some (ns.foldl max n)
def minI : List Int → Option Int
  | [] => none
  | n :: ns => some (ns.foldl min n)
def maxF (ws : List W) (G : Sto) : Option W := match ws with
  | [a] => (((lsqOf a G).bind intsOf).bind maxI).map fun n => .py (.int n)
  | _ => none
def minF (ws : List W) (G : Sto) : Option W := match ws with
  | [a] => (((lsqOf a G).bind intsOf).bind minI).map fun n => .py (.int n)
  | _ => none
theorem lift_sum {C : C0} : LiftN C (rSum C.K) sumF := by
  intro φ G H xs as c Q g ra h k
  unfold sumF at h
  split at h
  · rename_i a
    obtain ⟨v, rfl, r1⟩ := rwa1 ra
    obtain ⟨ns, hn, rfl⟩ := Option.map_eq_some_iff.mp h
    obtain ⟨ds, hd, hi⟩ := Option.bind_eq_some_iff.mp hn
    obtain ⟨p, us, rfl, f, q⟩ := lsqOf_sq g r1 hd
    rw [intsOf_rp hi q] at f
    exact ⟨p, ns, rfl, f, k.now g (rw_int.mpr rfl)⟩
  · cases h
theorem lift_all {C : C0} : LiftN C (rAll C.K) allF := by
  intro φ G H xs as c Q g ra h k
  unfold allF at h
  split at h
  · rename_i a
    obtain ⟨v, rfl, r1⟩ := rwa1 ra
    obtain ⟨ns, hn, rfl⟩ := Option.map_eq_some_iff.mp h
    obtain ⟨ds, hd, hi⟩ := Option.bind_eq_some_iff.mp hn
    obtain ⟨p, us, rfl, f, q⟩ := lsqOf_sq g r1 hd
    rw [boolsOf_rp hi q] at f
    exact ⟨p, ns, rfl, f, k.now g (rw_bool.mpr rfl)⟩
  · cases h
theorem lift_any {C : C0} : LiftN C (rAny C.K) anyF := by
  intro φ G H xs as c Q g ra h k
  unfold anyF at h
  split at h
  · rename_i a
    obtain ⟨v, rfl, r1⟩ := rwa1 ra
    obtain ⟨ns, hn, rfl⟩ := Option.map_eq_some_iff.mp h
    obtain ⟨ds, hd, hi⟩ := Option.bind_eq_some_iff.mp hn
    obtain ⟨p, us, rfl, f, q⟩ := lsqOf_sq g r1 hd
    rw [boolsOf_rp hi q] at f
    exact ⟨p, ns, rfl, f, k.now g (rw_bool.mpr rfl)⟩
  · cases h
theorem foldl_max_ge : ∀ (ns : List Int) (n : Int), n ≤ ns.foldl max n ∧ ∀ y ∈ ns, y ≤ ns.foldl max n
  | [], n => ⟨Int.le_refl _, fun _ h => nomatch h⟩
  | a :: ns, n => by
    obtain ⟨h1, h2⟩ := foldl_max_ge ns (max n a)
    show n ≤ ns.foldl max (max n a) ∧ _
    refine ⟨by omega, fun y hy => ?_⟩
    rcases List.mem_cons.mp hy with rfl | hy
    · show y ≤ ns.foldl max (max n y)
      omega
    · exact h2 y hy
theorem foldl_max_mem : ∀ (ns : List Int) (n : Int), ns.foldl max n = n ∨ ns.foldl max n ∈ ns
  | [], n => .inl rfl
  | a :: ns, n => by
    show ns.foldl max (max n a) = n ∨ ns.foldl max (max n a) ∈ a :: ns
    rcases foldl_max_mem ns (max n a) with h | h
    · rw [h]
      rcases Int.le_total n a with q | q
      · rw [Int.max_eq_right q]; exact .inr List.mem_cons_self
      · rw [Int.max_eq_left q]; exact .inl rfl
    · exact .inr (List.mem_cons_of_mem _ h)
theorem foldl_min_le : ∀ (ns : List Int) (n : Int), ns.foldl min n ≤ n ∧ ∀ y ∈ ns, ns.foldl min n ≤ y
  | [], n => ⟨Int.le_refl _, fun _ h => nomatch h⟩
  | a :: ns, n => by
    obtain ⟨h1, h2⟩ := foldl_min_le ns (min n a)
    show ns.foldl min (min n a) ≤ n ∧ _
    refine ⟨by omega, fun y hy => ?_⟩
    rcases List.mem_cons.mp hy with rfl | hy
    · show ns.foldl min (min n y) ≤ y
      omega
    · exact h2 y hy
theorem foldl_min_mem : ∀ (ns : List Int) (n : Int), ns.foldl min n = n ∨ ns.foldl min n ∈ ns
  | [], n => .inl rfl
  | a :: ns, n => by
    show ns.foldl min (min n a) = n ∨ ns.foldl min (min n a) ∈ a :: ns
    rcases foldl_min_mem ns (min n a) with h | h
    · rw [h]
      rcases Int.le_total n a with q | q
      · rw [Int.min_eq_left q]; exact .inl rfl
      · rw [Int.min_eq_right q]; exact .inr List.mem_cons_self
    · exact .inr (List.mem_cons_of_mem _ h)
theorem lift_max {C : C0} : LiftN C (rMax C.K) maxF := by
  intro φ G H xs as c Q g ra h k
  unfold maxF at h
  split at h
  · rename_i a
    obtain ⟨v, rfl, r1⟩ := rwa1 ra
    obtain ⟨n, hn, rfl⟩ := Option.map_eq_some_iff.mp h
    obtain ⟨ns, hn, hmx⟩ := Option.bind_eq_some_iff.mp hn
    obtain ⟨ds, hd, hi⟩ := Option.bind_eq_some_iff.mp hn
    obtain ⟨p, us, rfl, f, q⟩ := lsqOf_sq g r1 hd
    rw [intsOf_rp hi q] at f
    cases ns with
    | nil => cases hmx
    | cons a ns =>
      cases hmx
      refine ⟨p, _, rfl, f, Nat.succ_pos _, fun m hm hmax => ?_⟩
      obtain ⟨g1, g2⟩ := foldl_max_ge ns a
      have e : m = ns.foldl max a := by
        have h1 : m ≤ ns.foldl max a := by
          rcases List.mem_cons.mp hm with rfl | z
          · exact g1
          · exact g2 m z
        have h2 : ns.foldl max a ≤ m := by
          rcases foldl_max_mem ns a with z | z
          · rw [z]; exact hmax a List.mem_cons_self
          · exact hmax _ (List.mem_cons_of_mem _ z)
        omega
      rw [e]
      exact k.now g (rw_int.mpr rfl)
  · cases h
theorem lift_min {C : C0} : LiftN C (rMin C.K) minF := by
  intro φ G H xs as c Q g ra h k
  unfold minF at h
  split at h
  · rename_i a
    obtain ⟨v, rfl, r1⟩ := rwa1 ra
    obtain ⟨n, hn, rfl⟩ := Option.map_eq_some_iff.mp h
    obtain ⟨ns, hn, hmx⟩ := Option.bind_eq_some_iff.mp hn
    obtain ⟨ds, hd, hi⟩ := Option.bind_eq_some_iff.mp hn
    obtain ⟨p, us, rfl, f, q⟩ := lsqOf_sq g r1 hd
    rw [intsOf_rp hi q] at f
    cases ns with
    | nil => cases hmx
    | cons a ns =>
      cases hmx
      refine ⟨p, _, rfl, f, Nat.succ_pos _, fun m hm hmax => ?_⟩
      obtain ⟨g1, g2⟩ := foldl_min_le ns a
      have e : m = ns.foldl min a := by
        have h1 : ns.foldl min a ≤ m := by
          rcases List.mem_cons.mp hm with rfl | z
          · exact g1
          · exact g2 m z
        have h2 : m ≤ ns.foldl min a := by
          rcases foldl_min_mem ns a with z | z
          · rw [z]; exact hmax a List.mem_cons_self
          · exact hmax _ (List.mem_cons_of_mem _ z)
        omega
      rw [e]
      exact k.now g (rw_int.mpr rfl)
  · cases h
/-! list(..), tuple(..) -/
def listF (ws : List W) (G : Sto) : Option W := match ws with
  | [.py (.tuple ds)] => some (.py (.list ds))
  | [a] => (lsqOf a G).map fun ds => .py (.list ds)
  | _ => none
def tupleF (ws : List W) (G : Sto) : Option W := match ws with
  | [.py (.tuple ds)] => some (.py (.tuple ds))
  | [a] => (lsqOf a G).map fun ds => .py (.tuple ds)
  | _ => none
theorem lift_list {C : C0} : LiftN C (fun xs H Q => ∃ p ys, xs = [.ref p] ∧ (SqL C.K H p ys ∨ SqT C.K H p ys) ∧ ∀ l, H l = none → Q (.ref l) (upd H l (.lst ys))) listF := by
  intro φ G H xs as c Q g ra h k
  unfold listF at h
  split at h
  · cases h
    obtain ⟨v, rfl, r1⟩ := rwa1 ra
    obtain ⟨p, us, rfl, f, q⟩ := rw_tuple.mp r1
    exact ⟨p, us, rfl, .inr f, fun l n => k.lst g n q⟩
  · obtain ⟨v, rfl, r1⟩ := rwa1 ra
    obtain ⟨ds, hd, rfl⟩ := Option.map_eq_some_iff.mp h
    obtain ⟨p, us, rfl, f, q⟩ := lsqOf_sq g r1 hd
    exact ⟨p, us, rfl, .inl f, fun l n => k.lst g n q⟩
  · cases h
theorem lift_tuple {C : C0} : LiftN C (fun xs H Q => ∃ p ys, xs = [.ref p] ∧ ((SqL C.K H p ys ∧ ∀ l, H l = none → Q (.ref l) (upd H l (.tup ys))) ∨ (SqT C.K H p ys ∧ Q (.ref p) H))) tupleF := by
  intro φ G H xs as c Q g ra h k
  unfold tupleF at h
  split at h
  · cases h
    obtain ⟨v, rfl, r1⟩ := rwa1 ra
    obtain ⟨p, us, rfl, f, q⟩ := rw_tuple.mp r1
    exact ⟨p, us, rfl, .inr ⟨f, k.now g r1⟩⟩
  · obtain ⟨v, rfl, r1⟩ := rwa1 ra
    obtain ⟨ds, hd, rfl⟩ := Option.map_eq_some_iff.mp h
    obtain ⟨p, us, rfl, f, q⟩ := lsqOf_sq g r1 hd
    exact ⟨p, us, rfl, .inl ⟨f, fun l n => k.tup g n q⟩⟩
  · cases h
/-! isinstance -/
def tyN : W → Option String
  | .py .none => some "NoneType"
  | .py (.bool _) => some "bool"
  | .py (.int _) => some "int"
  | .py (.str _) => some "str"
  | .py (.list _) => some "list"
  | .py (.tuple _) => some "tuple"
  | .py (.dict _) => none
  | .obj _ => some "list"
  | .brw _ => some "list"
  | .scr _ => some "list"
theorem tyN_ok {C : C0} {φ : Ph} {G : Sto} {H : Hp} {a : W} {v : V} {t : String} (g : RelG C φ G H) (r : RW C φ H a v) (h : tyN a = some t) : TyX C.K H v (.type t) := by
  cases a with
  | py d =>
    cases d with
    | none => cases h; rw [rw_none.mp r]; exact .base .non
    | bool b => cases h; rw [rw_bool.mp r]; exact .base (.bl _)
    | int b => cases h; rw [rw_int.mp r]; exact .base (.int _)
    | str b => cases h; rw [rw_str.mp r]; exact .base (.str _)
    | list b =>
      cases h
      obtain ⟨p, xs, rfl, ⟨o, f⟩, _⟩ := rw_list.mp r
      exact .base (.frz f)
    | tuple b =>
      cases h
      obtain ⟨p, xs, rfl, f, _⟩ := rw_tuple.mp r
      rcases f with (f | ⟨o, f⟩) | ⟨o, its, n, e, c, _⟩
      · exact .base (.tup f)
      · exact .fTuple f
      · exact .kTuple e c
    | dict b => cases h
  | obj n =>
    cases h
    obtain ⟨p, e, rfl⟩ := r
    have hp : n < φ.adr.length := (List.getElem?_eq_some_iff.mp e).1
    rw [g.len] at hp
    obtain ⟨p', e2, q⟩ := g.obj n G[n] (List.getElem?_eq_getElem hp)
    rw [e] at e2
    cases e2
    cases hG : G[n] with
    | lst ds =>
      rw [hG] at q
      obtain ⟨xs, e3, _⟩ := q
      exact .base (.lst e3)
  | brw ds =>
    cases h
    obtain ⟨p, xs, rfl, f, _⟩ := r
    rcases f with f | ⟨o, f⟩
    · exact .base (.lst f)
    · exact .base (.frz f)
  | scr ds =>
    cases h
    obtain ⟨p, xs, rfl, f, _⟩ := r
    rcases f with ⟨o, f⟩ | ⟨o, its, n, e, c, _⟩
    · exact .base (.frz f)
    · exact .kList e c
/-- isinstance by names -/
def isaN (t T : String) : Bool := t == T || (t == "bool" && T == "int")
def tyNs : List String := ["NoneType", "bool", "int", "str", "list", "tuple"]
def isaNs : List String := ["bool", "int", "str", "list", "tuple", "dict"]
theorem isaN_all : (tyNs.all fun t => isaNs.all fun T => kitB t T == some (isaN t T)) = true := by decide +kernel
theorem tyN_in {a : W} {t : String} (h : tyN a = some t) : t ∈ tyNs := by
  unfold tyN at h
  split at h <;> first | (cases h; done) | (cases h; decide)
theorem isaN_ok {K : PySem.W.Frag} {t T : String} (h1 : t ∈ tyNs) (h2 : T ∈ isaNs) : PySem.W.kitOne K (.type t) (.type T) = some (isaN t T) := by
  have h := List.all_eq_true.mp (List.all_eq_true.mp isaN_all t h1) T h2
  exact kit_ty (by simpa using h)
theorem isaN_any {K : PySem.W.Frag} {t : String} (h1 : t ∈ tyNs) : ∀ Ts : List String, (∀ T ∈ Ts, T ∈ isaNs) → PySem.W.kitAny K (.type t) (Ts.map Value.type) = some (Ts.any fun T => isaN t T)
  | [], _ => rfl
  | T :: Ts, h => by
    rw [List.map_cons, List.any_cons]
    refine kitAny_cons (isaN_ok h1 (h T List.mem_cons_self)) (fun e => ?_) fun e => ?_
    · rw [e]; exact isaN_any h1 Ts fun T' h' => h T' (List.mem_cons_of_mem _ h')
    · rw [e]; rfl
def isaD (Ts : List String) (a : Fm → M W) : Fm → M W := fun ρ => bnd (a ρ) fun x => lft fun _ => (tyN x).map fun t => .py (.bool (Ts.any fun T => isaN t T))
def tTys : List String → TA
  | [] => tNil
  | T :: Ts => tCons (tC (.ty T)) (tTys Ts)
theorem tTys_ok {σ : L2.St} {H : Hp} : ∀ {Ts : List String} {Q : List V → Hp → Prop}, Q (Ts.map V.ty) H → tTys Ts σ H Q
  | [], _, h => h
  | _ :: Ts, _, h => tTys_ok (Ts := Ts) h
theorem clsv_all : ∀ Ts : List String, Paired ClsV (Ts.map V.ty) (Ts.map Value.type)
  | [] => .nil
  | T :: Ts => .cons (.ty T) (clsv_all Ts)
section
variable {X : Cx} {EE : EW} {p q r pos : Pos} {e : Expr} {da : Fm → M W} {T : String} {x : Str} {es : List Expr} {Ts : List String}
theorem pa_ty (hm : X.mg x = none) (ht : PA X es (tTys Ts)) (hg : Gl X x := by rfl) (hv : bootBuiltins x = some (.type T) := by rfl) (hn : x ≠ "__name__" := by decide) (hd : (x == ("__debug__" : Str)) = false := by decide)
    (hs : starEach (.Name x p :: es) X.env = (false, eval (.Name x p) X.env) :: starEach es X.env := by rfl) : PA X (.Name x p :: es) (tTys (T :: Ts)) :=
  pa_cons (pe_bltn (v := .ty T) hg hm hv rfl hn hd) ht hs
theorem me_isa (hm : X.mg "isinstance" = none) (hmx : X.mg x = none) (he : ME X EE e da) (hT : T ∈ isaNs := by decide) (hg : Gl X "isinstance" := by rfl) (hgx : Gl X x := by rfl) (hv : bootBuiltins x = some (.type T) := by rfl)
    (hn : x ≠ "__name__" := by decide) (hd : (x == ("__debug__" : Str)) = false := by decide)
    (hs : starEach [e, .Name x q] X.env = (false, eval e X.env) :: starEach [.Name x q] X.env := by rfl) (hs2 : starEach [.Name x q] X.env = (false, eval (.Name x q) X.env) :: starEach [] X.env := by rfl)
    (hpl : (backTo pos (starEach [.Name x q] X.env)).any (·.1) = false := by rfl) : ME X EE (.Call (.Name "isinstance" p) [e, .Name x q] [] pos) (isaD [T] da) := by
  refine PE.weak (pe_callB (r := rIsi X.K) call_isi hg hm (by rfl) (pa_cons he (pa_cons (pe_bltn (v := .ty T) hgx hmx hv rfl hn hd) pa_nil hs2) hs) (by decide) (by decide) hs hpl) fun σ H Q h => ?_
  obtain ⟨φ, ρ, G, g, e, h⟩ := h
  refine ⟨φ, ρ, G, g, e, (endsE.bnd h).mono fun x G1 φ1 H1 x1 g1 k v r1 => ?_⟩
  obtain ⟨w, hw, k⟩ := endsE.lft k
  obtain ⟨t, ht, rfl⟩ := Option.map_eq_some_iff.mp hw
  refine ⟨v, .ty T, .type t, .type T, isaN t T, rfl, .ty T, tyN_ok g1 r1 ht, isaN_ok (tyN_in ht) hT, k φ1 H1 (.refl _ _) g1 _ ?_⟩
  exact rw_bool.mpr (by simp)
theorem me_isaT {kk : Nat} (hm : X.mg "isinstance" = none) (he : ME X EE e da) (ht : PA X es (tTys Ts)) (hT : ∀ T ∈ Ts, T ∈ isaNs := by decide) (hz : Ts.length ≤ 100 := by decide) (hg : Gl X "isinstance" := by rfl)
    (hs : starEach [e, .Tuple es kk q] X.env = (false, eval e X.env) :: starEach [.Tuple es kk q] X.env := by rfl) (hs2 : starEach [.Tuple es kk q] X.env = (false, eval (.Tuple es kk q) X.env) :: starEach [] X.env := by rfl)
    (hpl : (backTo pos (starEach [.Tuple es kk q] X.env)).any (·.1) = false := by rfl) : ME X EE (.Call (.Name "isinstance" p) [e, .Tuple es kk q] [] pos) (isaD Ts da) := by
  refine PE.weak (pe_callB (r := rIsiT X.K) call_isiT hg hm (by rfl) (pa_cons he (pa_cons (pe_tup ht) pa_nil hs2) hs) (by decide) (by decide) hs hpl) fun σ H Q h => ?_
  obtain ⟨φ, ρ, G, g, e, h⟩ := h
  refine ⟨φ, ρ, G, g, e, (endsE.bnd h).mono fun x G1 φ1 H1 x1 g1 k v r1 => ?_⟩
  obtain ⟨w, hw, k⟩ := endsE.lft k
  obtain ⟨t, htn, rfl⟩ := Option.map_eq_some_iff.mp hw
  refine tTys_ok ⟨by rw [List.length_map, sizeLine_eq]; omega, fun tp n => ?_⟩
  have x2 : Ext φ1 H1 φ1 (upd H1 tp (.tup (Ts.map V.ty))) := .laid n
  refine ⟨v, tp, Ts.map V.ty, .type t, Ts.map Value.type, _, rfl, upd_same, ?_, tyN_ok (g1.laid n) (r1.ext x2) htn, isaN_any (tyN_in htn) Ts hT, k φ1 _ x2 (g1.laid n) _ (rw_bool.mpr rfl)⟩
  exact clsv_all Ts
end
end DL

set_option maxHeartbeats 1000000
/-! DL6: statements. -/
namespace DL
open PySem PySem.Spec PyProof.Rows L2

inductive RS where
  | nx (ρ : Fm) (G : Sto)
  | rt (w : W) (G : Sto)
  | bk (ρ : Fm) (G : Sto)
  | ct (ρ : Fm) (G : Sto)
  | exc (x : Exn) (ρ : Fm) (G : Sto)
  | bad
abbrev MS := Fm → Sto → RS
/-- where the def began: the store's places, the heap; what never changes since -/
structure Org where
  φ : Ph
  H : Hp
  Hk : Hp
structure StR (C : C0) (o : Org) (φ : Ph) (ρ : Fm) (G : Sto) (σ : L2.St) (H : Hp) : Prop where
  ext : Ext o.φ o.H φ H
  kp : Kp o.Hk H
  g : RelG C φ G H
  e : RelE C φ ρ σ H
  b : RelB o.H ρ σ
theorem StR.fwd {C : C0} {o : Org} {φ φ' : Ph} {ρ : Fm} {G G' : Sto} {σ : L2.St} {H H' : Hp} (s : StR C o φ ρ G σ H) (x : Ext φ H φ' H') (g : RelG C φ' G' H') : StR C o φ' ρ G' σ H' :=
  ⟨s.ext.trans x, s.kp.trans x.kp, g, s.e.ext x, s.b⟩
def endS (C : C0) (EE : EW) (o : Org) (D : Ends) : RS → Prop
  | .nx ρ G => ∀ φ σ H, StR C o φ ρ G σ H → D.nx σ H
  | .rt w G => ∀ φ H v, Ext o.φ o.H φ H → RelG C φ G H → RW C φ H w v → D.rt v H
  | .bk ρ G => ∀ φ σ H, StR C o φ ρ G σ H → D.bk σ H
  | .ct ρ G => ∀ φ σ H, StR C o φ ρ G σ H → D.ct σ H
  | .exc x ρ G => ∀ φ σ H, StR C o φ ρ G σ H → EE x ρ G φ σ H
  | .bad => False
def tS (C : C0) (EE : EW) (o : Org) (den : MS) : TS := fun D σ H => ∃ φ ρ G, StR C o φ ρ G σ H ∧ endS C EE o D (den ρ G)
def MSt (X : Cx) (EE : EW) (st : Stmt) (den : MS) : Prop := ∀ o : Org, PS X st (tS (c0 X) EE o den)
def MSs (X : Cx) (EE : EW) (st : List Stmt) (den : MS) : Prop := ∀ o : Org, PSs X st (tS (c0 X) EE o den)
/-- an expression's end in a statement -/
def exS {α : Type} (r : R α) (ρ : Fm) (f : α → Sto → RS) : RS := match r with
  | .ok a G => f a G
  | .exc x G => .exc x ρ G
  | .bad => .bad
theorem exS_ok {α : Type} {m : M α} {G G' : Sto} {a : α} {ρ : Fm} {f : α → Sto → RS} (h : m G = .ok a G') : exS (m G) ρ f = f a G' := by rw [h]; rfl
theorem exS_ends {α : Type} {C : C0} {EE : EW} {o : Org} {D : Ends} {φ : Ph} {ρ : Fm} {σ : L2.St} {H : Hp} {G : Sto} {r : R α} {f : α → Sto → RS} {K : α → Sto → Ph → Hp → Prop}
    (s : StR C o φ ρ G σ H) (h : endS C EE o D (exS r ρ f)) (k : ∀ a G' φ' H', Ext φ H φ' H' → RelG C φ' G' H' → StR C o φ' ρ G' σ H' → endS C EE o D (f a G') → K a G' φ' H') : endsE C EE φ ρ σ H K r := by
  cases r with
  | bad => exact h
  | exc x G' => exact fun φ' H' x g => h φ' σ H' (s.fwd x g)
  | ok a G' => exact fun φ' H' x g => k a G' φ' H' x g (s.fwd x g) h

def sNil : MS := fun ρ G => .nx ρ G
def sSeq (a b : MS) : MS := fun ρ G => match a ρ G with
  | .nx ρ' G' => b ρ' G'
  | r => r
def sExpr (de : Fm → M W) : MS := fun ρ G => exS (de ρ G) ρ fun _ G' => .nx ρ G'
def sRet (de : Fm → M W) : MS := fun ρ G => exS (de ρ G) ρ fun w G' => .rt w G'
def sRetN : MS := fun _ G => .rt (.py .none) G
def sRetV (i : Nat) : MS := fun ρ G => match ρ[i]? with
  | some (.val w) => .rt w G
  | some (.own ds) => .rt (.py (.list ds)) G
  | _ => .bad
def sBreak : MS := fun ρ G => .bk ρ G
def sCont : MS := fun ρ G => .ct ρ G
def sNever : MS := fun _ _ => .bad
def sIf (c : Fm → M Bool) (a b : MS) : MS := fun ρ G => exS (c ρ G) ρ fun t G' => if t = true then a ρ G' else b ρ G'
def sSet (i : Nat) (de : Fm → M W) : MS := fun ρ G => exS (de ρ G) ρ fun w G' => if stab w = true then .nx (ρ.set i (.val w)) G' else .bad
def sSetF (i : Nat) (de : Fm → M (List PD)) : MS := fun ρ G => exS (de ρ G) ρ fun ds G' => .nx (ρ.set i (.own ds)) G'
def sAsg (b : Bnd) (de : Fm → M W) : MS := fun ρ G => exS (de ρ G) ρ fun w G' => match b w ρ with
  | some ρ' => .nx ρ' G'
  | none => .bad

section
variable {X : Cx} {EE : EW} {pos : Pos} {e c : Expr} {de : Fm → M W} {dt : Fm → M Bool} {df : Fm → M (List PD)} {st : Stmt} {p q : List Stmt} {a b : MS}
theorem mss_nil : MSs X EE [] sNil := fun o => PSs.weak pss_nil fun D σ H h => by
  obtain ⟨φ, ρ, G, s, h⟩ := h
  exact h φ σ H s
theorem mss_cons (h1 : MSt X EE st a) (h2 : MSs X EE p b) : MSs X EE (st :: p) (sSeq a b) := fun o => PSs.weak (pss_cons (h1 o) (h2 o)) fun D σ H h => by
  obtain ⟨φ, ρ, G, s, h⟩ := h
  refine ⟨φ, ρ, G, s, ?_⟩
  unfold sSeq at h
  cases hr : a ρ G with
  | nx ρ' G' =>
    rw [hr] at h
    exact fun φ' σ' H' s' => ⟨φ', ρ', G', s', h⟩
  | rt w G' => rw [hr] at h; exact h
  | bk ρ' G' => rw [hr] at h; exact h
  | ct ρ' G' => rw [hr] at h; exact h
  | exc x ρ' G' => rw [hr] at h; exact h
  | bad => rw [hr] at h; exact h
theorem mss_one (h1 : MSt X EE st a) : MSs X EE [st] a := fun o => pss_one (h1 o)
theorem ms_pass : MSt X EE (.Pass pos) sNil := fun o => PS.weak ps_pass fun D σ H h => by
  obtain ⟨φ, ρ, G, s, h⟩ := h
  exact h φ σ H s
theorem ms_break : MSt X EE (.Break pos) sBreak := fun o => PS.weak ps_break fun D σ H h => by
  obtain ⟨φ, ρ, G, s, h⟩ := h
  exact h φ σ H s
theorem ms_cont : MSt X EE (.Continue pos) sCont := fun o => PS.weak ps_continue fun D σ H h => by
  obtain ⟨φ, ρ, G, s, h⟩ := h
  exact h φ σ H s
theorem ms_never : MSt X EE st sNever := fun o => PS.weak ps_never fun D σ H h => by
  obtain ⟨φ, ρ, G, s, h⟩ := h
  exact h
theorem mss_never : MSs X EE p sNever := fun o => PSs.weak pss_never fun D σ H h => by
  obtain ⟨φ, ρ, G, s, h⟩ := h
  exact h
theorem ms_doc {x j pos'} : MSt X EE (.Expr (.Constant (.str x) j pos) pos') sNil := fun o => PS.weak ps_doc fun D σ H h => by
  obtain ⟨φ, ρ, G, s, h⟩ := h
  exact h φ σ H s
theorem ms_expr (he : ME X EE e de) (hs : swapsWith e none pos.line X.env = pure false := by rfl) : MSt X EE (.Expr e pos) (sExpr de) := fun o => PS.weak (ps_expr he hs) fun D σ H h => by
  obtain ⟨φ, ρ, G, s, h⟩ := h
  exact ⟨φ, ρ, G, s.g, s.e, exS_ends s h fun w G1 φ1 H1 x1 g1 s1 k v r1 => k φ1 σ H1 s1⟩
theorem ms_ret (he : ME X EE e de) : MSt X EE (.Return (some e) pos) (sRet de) := fun o => PS.weak (ps_ret he) fun D σ H h => by
  obtain ⟨φ, ρ, G, s, h⟩ := h
  refine ⟨φ, ρ, G, s.g, s.e, exS_ends s h fun w G1 φ1 H1 x1 g1 s1 k v r1 => k φ1 H1 v s1.ext g1 r1⟩
theorem ms_retN : MSt X EE (.Return none pos) sRetN := fun o => PS.weak ps_retN fun D σ H h => by
  obtain ⟨φ, ρ, G, s, h⟩ := h
  exact h φ H _ s.ext s.g (rw_none.mpr rfl)
theorem ms_retV (i : Nat) {x : Str} {p2 : Pos} (hN : X.N[i]? = some x := by rfl) (hv : Vis X.env.scope x := by first | exact Or.inl rfl | exact Or.inr (Or.inl rfl) | exact Or.inr (Or.inr rfl)) (hd : (x == ("__debug__" : Str)) = false := by decide)
    (hcd : (x == ("__classdict__" : Str)) = false := by decide) : MSt X EE (.Return (some (.Name x p2)) pos) (sRetV i) := fun o => PS.weak (ps_ret (PE.fz (pe_var hN hv hd hcd))) fun D σ H h => by
  obtain ⟨φ, ρ, G, s, h⟩ := h
  unfold sRetV at h
  split at h
  · rename_i w ew
    obtain ⟨_, v, e1, r⟩ := s.e.val i w ew
    exact ⟨v, e1, .inl (h φ H v s.ext s.g r)⟩
  · rename_i ds ed
    obtain ⟨a, xs, e1, e2, r, nm⟩ := s.e.own i ds ed
    refine ⟨.ref a, e1, .inr ⟨a, xs, rfl, e2, fun ob => ?_⟩⟩
    refine h φ _ _ (s.ext.frz (s.b i ds a ed e1) e2) (s.g.kp (kp_frz e2) fun b u hb hu => by rw [upd_ne (fun z => nm (by rw [← z]; exact hb))]; exact hu) ?_
    exact rw_list.mpr ⟨a, xs, rfl, ⟨ob, upd_same⟩, RpA.kp (kp_frz e2) _ r⟩
  · exact h.elim
theorem ms_if (hc : MT X EE c dt) (ha : MSs X EE p a) (hb : MSs X EE q b) : MSt X EE (.If c p q pos) (sIf dt a b) := fun o => PS.weak (ps_if hc (ha o) (hb o)) fun D σ H h => by
  obtain ⟨φ, ρ, G, s, h⟩ := h
  refine ⟨φ, ρ, G, s.g, s.e, exS_ends s h fun t G1 φ1 H1 x1 g1 s1 k => ?_⟩
  cases t with
  | true => exact ⟨φ1, ρ, G1, s1, k⟩
  | false => exact ⟨φ1, ρ, G1, s1, k⟩
theorem ms_set (i : Nat) {x : Str} {p2 : Pos} (hN : X.N.Nodup) (he : ME X EE e de) (hi : X.N[i]? = some x := by rfl) (hx : Loc X.env.scope x := by first | exact Or.inl rfl | exact Or.inr rfl)
    (hs : swapsWith e (some (.Name x p2)) pos.line X.env = pure false := by rfl) (hf : X.fn x = true ∨ X.env.scope.names.lookup x = some .local := by first | exact .inl rfl | exact .inr rfl) :
    MSt X EE (.Assign [.Name x p2] e pos) (sSet i de) := fun o => PS.weak (ps_set hN hi hx he hs hf) fun D σ H h => by
  obtain ⟨φ, ρ, G, s, h⟩ := h
  refine ⟨φ, ρ, G, s.g, s.e, exS_ends s h fun w G1 φ1 H1 x1 g1 s1 k v r1 => ?_⟩
  split at k
  · rename_i hst
    exact k φ1 _ H1 ⟨s1.ext, s1.kp, g1, set_rel s1.e r1 hst, set_relB s1.b⟩
  · exact k.elim
theorem own_new {C : C0} {φ : Ph} {ρ : Fm} {σ : L2.St} {H : Hp} {i : Nat} {ds : List PD} {xs : List V} {a : Addr} (e : RelE C φ ρ σ H) (eH : H a = some (.lst xs)) (nm : a ∉ φ.mu) (r : RpA C H ds xs)
    (nw : ∀ (j : Nat) dj, ρ[j]? = some (.own dj) → σ[j]? ≠ some (some (.ref a))) : RelE C φ (ρ.set i (.own ds)) (σ.set i (some (.ref a))) H := by
  refine ⟨by rw [List.length_set, List.length_set, e.len], fun j x hx => ?_, fun j dj hx => ?_, fun j k dj dk b h1 h2 h3 h4 => ?_⟩
  · have nj : i ≠ j := fun z => by
      subst z
      rw [List.getElem?_set, if_pos rfl] at hx
      split at hx <;> cases hx
    rw [List.getElem?_set_ne nj] at hx ⊢
    exact e.val j x hx
  · by_cases h : i = j
    · subst h
      rw [List.getElem?_set, if_pos rfl] at hx
      split at hx
      · rename_i hi
        cases hx
        refine ⟨a, xs, ?_, eH, r, nm⟩
        rw [List.getElem?_set, if_pos rfl, if_pos (by rw [← e.len]; exact hi)]
      · cases hx
    · rw [List.getElem?_set_ne h] at hx
      obtain ⟨b, ys, e1, q⟩ := e.own j dj hx
      exact ⟨b, ys, by rw [List.getElem?_set_ne h]; exact e1, q⟩
  · have key : ∀ (j : Nat) dj, (ρ.set i (.own ds))[j]? = some (.own dj) → (σ.set i (some (.ref a)))[j]? = some (some (.ref b)) → (i = j ∧ b = a) ∨ (i ≠ j ∧ ρ[j]? = some (.own dj) ∧ σ[j]? = some (some (.ref b))) := fun j dj q1 q2 => by
      by_cases h : i = j
      · subst h
        rw [List.getElem?_set, if_pos rfl] at q2
        split at q2
        · cases q2; exact .inl ⟨rfl, rfl⟩
        · cases q2
      · rw [List.getElem?_set_ne h] at q1 q2
        exact .inr ⟨h, q1, q2⟩
    rcases key j dj h1 h3 with ⟨q1, q2⟩ | ⟨q1, q2, q3⟩
    · rcases key k dk h2 h4 with ⟨t1, t2⟩ | ⟨t1, t2, t3⟩
      · rw [← q1, ← t1]
      · subst q2; exact (nw k dk t2 t3).elim
    · rcases key k dk h2 h4 with ⟨t1, t2⟩ | ⟨t1, t2, t3⟩
      · subst t2; exact (nw j dj q2 q3).elim
      · exact e.sep j k dj dk b q2 t2 q3 t3
theorem own_newB {H0 : Hp} {ρ : Fm} {σ : L2.St} {i : Nat} {ds : List PD} {a : Addr} (b : RelB H0 ρ σ) (n : H0 a = none) : RelB H0 (ρ.set i (.own ds)) (σ.set i (some (.ref a))) := fun j dj c h1 h2 => by
  by_cases h : i = j
  · subst h
    rw [List.getElem?_set, if_pos rfl] at h2
    split at h2
    · cases h2; exact n
    · cases h2
  · rw [List.getElem?_set_ne h] at h1 h2
    exact b j dj c h1 h2
/-- what is new is no list of the frame -/
theorem own_not {C : C0} {φ : Ph} {ρ : Fm} {σ : L2.St} {H : Hp} {a : Addr} (e : RelE C φ ρ σ H) (n : H a = none) : ∀ (j : Nat) dj, ρ[j]? = some (.own dj) → σ[j]? ≠ some (some (.ref a)) := fun j dj h1 h2 => by
  obtain ⟨b, ys, e1, e2, _⟩ := e.own j dj h1
  rw [h2] at e1
  cases e1
  rw [n] at e2
  cases e2
theorem StR.fresh {C : C0} {o : Org} {φ : Ph} {ρ : Fm} {G : Sto} {σ : L2.St} {H : Hp} (s : StR C o φ ρ G σ H) {a : Addr} (n : H a = none) : o.H a = none := s.ext.fresh s.g n
theorem setF_go {C : C0} {o : Org} {D : Ends} {φ : Ph} {ρ : Fm} {G G1 : Sto} {σ : L2.St} {H : Hp} {i : Nat} {ds : List PD} (s : StR C o φ ρ G σ H) {φ1 : Ph} {H1 : Hp} (s1 : StR C o φ1 ρ G1 σ H1) (k : endS C EE o D (.nx (ρ.set i (.own ds)) G1))
    (a : Addr) (xs : List V) (n : H a = none) (e1 : H1 a = some (.lst xs)) (nm : a ∉ φ1.mu) (r : RpA C H1 ds xs) : D.nx (σ.set i (some (.ref a))) H1 :=
  k φ1 _ H1 ⟨s1.ext, s1.kp, s1.g, own_new s1.e e1 nm r (own_not s.e n), own_newB s1.b (s.fresh n)⟩
theorem ms_setF (i : Nat) {x : Str} {p2 : Pos} (hN : X.N.Nodup) (he : MF X EE e df) (hi : X.N[i]? = some x := by rfl) (hx : Loc X.env.scope x := by first | exact Or.inl rfl | exact Or.inr rfl)
    (hs : swapsWith e (some (.Name x p2)) pos.line X.env = pure false := by rfl) (hf : X.fn x = true ∨ X.env.scope.names.lookup x = some .local := by first | exact .inl rfl | exact .inr rfl) :
    MSt X EE (.Assign [.Name x p2] e pos) (sSetF i df) := fun o => PS.weak (ps_set hN hi hx he hs hf) fun D σ H h => by
  obtain ⟨φ, ρ, G, s, h⟩ := h
  exact ⟨φ, ρ, G, s.g, s.e, exS_ends s h fun ds G1 φ1 H1 x1 g1 s1 k a xs n e1 nm r => setF_go s s1 k a xs n e1 nm r⟩
theorem ms_asg {tg : Expr} {ts : List Nat} {b : Bnd} (he : ME X EE e de) (hg : MG X tg ts b) (hs : swapsWithSole [tg] e pos.line X.env = pure false := by rfl) (hw : swappedStores [tg] e X.env = pure none := by rfl)
    (h1 : (assignEach [tg] X.env).map (·.2) = [assign tg X.env] := by rfl) : MSt X EE (.Assign [tg] e pos) (sAsg b de) := fun o => PS.weak (ps_asg he hg hs hw h1) fun D σ H h => by
  obtain ⟨φ, ρ, G, s, h⟩ := h
  refine ⟨φ, ρ, G, s.g, s.e, exS_ends s h fun w G1 φ1 H1 x1 g1 s1 k v r1 => ?_⟩
  split at k
  · rename_i ρ' hb
    exact ⟨φ1, ρ, w, ρ', s1.e, r1, hb, fun σ' e' _ b' => k φ1 σ' H1 ⟨s1.ext, s1.kp, g1, e', b' _ s1.b⟩⟩
  · exact k.elim
end
/-- a, b = x, y -/
def sPar (i j : Nat) (as : Fm → M (List W)) : MS := fun ρ G => exS (as ρ G) ρ fun ws G' => match ws with
  | [x, y] => if stab x = true ∧ stab y = true then .nx ((ρ.set i (.val x)).set j (.val y)) G' else .bad
  | _ => .bad
section
variable {X : Cx} {EE : EW} {pos : Pos} {a b : Expr} {da : Fm → M (List W)}
theorem ms_par (i j : Nat) {x y : Str} {px py pt : Pos} {kt k2 pt2} (hc : X.calm = true) (hN : X.N.Nodup) (ha : MA X EE [a, b] da)
    (hw : swappedStores [.Tuple [.Name x px, .Name y py] kt pt] (.Tuple [a, b] k2 pt2) X.env = pure (some [x, y])) (hi : X.N[i]? = some x := by rfl) (hj : X.N[j]? = some y := by rfl) (hij : i ≠ j := by decide)
    (hx : X.env.scope.names.lookup x = some .local := by rfl) (hy : X.env.scope.names.lookup y = some .local := by rfl)
    (hs : swapsWithSole [.Tuple [.Name x px, .Name y py] kt pt] (.Tuple [a, b] k2 pt2) pos.line X.env = pure false := by rfl) :
    MSt X EE (.Assign [.Tuple [.Name x px, .Name y py] kt pt] (.Tuple [a, b] k2 pt2) pos) (sPar i j da) := fun o => PS.weak (ps_par hc hN hi hj hij hx hy ha hw hs) fun D σ H h => by
  obtain ⟨φ, ρ, G, s, h⟩ := h
  refine ⟨φ, ρ, G, s.g, s.e, exS_ends s h fun ws G1 φ1 H1 x1 g1 s1 k vs r1 => ?_⟩
  split at k
  · split at k
    · rename_i hst
      obtain ⟨v, u, rfl, r1, r2⟩ := rwa2 r1
      exact ⟨v, u, rfl, k φ1 _ H1 ⟨s1.ext, s1.kp, g1, set_rel (set_rel s1.e r1 hst.1) r2 hst.2, set_relB (set_relB s1.b)⟩⟩
    · exact k.elim
  · exact k.elim
/-- a, b = [..], y : a new list and a value -/
def sParF (i j : Nat) (df : Fm → M (List PD)) (de : Fm → M W) : MS := fun ρ G => exS (df ρ G) ρ fun ds G1 => exS (de ρ G1) ρ fun w G2 => if stab w = true then .nx ((ρ.set i (.own ds)).set j (.val w)) G2 else .bad
theorem ms_parF (i j : Nat) {x y : Str} {px py pt : Pos} {kt k2 pt2} {df : Fm → M (List PD)} {de : Fm → M W} (hc : X.calm = true) (hN : X.N.Nodup) (ha : MF X EE a df) (hb : ME X EE b de)
    (hw : swappedStores [.Tuple [.Name x px, .Name y py] kt pt] (.Tuple [a, b] k2 pt2) X.env = pure (some [x, y])) (hi : X.N[i]? = some x := by rfl) (hj : X.N[j]? = some y := by rfl) (hij : i ≠ j := by decide)
    (hx : X.env.scope.names.lookup x = some .local := by rfl) (hy : X.env.scope.names.lookup y = some .local := by rfl)
    (hs : swapsWithSole [.Tuple [.Name x px, .Name y py] kt pt] (.Tuple [a, b] k2 pt2) pos.line X.env = pure false := by rfl) (hs1 : starEach [a, b] X.env = (false, eval a X.env) :: starEach [b] X.env := by rfl) (hs2 : starEach [b] X.env = (false, eval b X.env) :: starEach [] X.env := by rfl) :
    MSt X EE (.Assign [.Tuple [.Name x px, .Name y py] kt pt] (.Tuple [a, b] k2 pt2) pos) (sParF i j df de) := fun o => PS.weak (ps_par hc hN hi hj hij hx hy (pa_cons ha (pa_cons hb pa_nil hs2) hs1) hw hs) fun D σ H h => by
  obtain ⟨φ, ρ, G, s, h⟩ := h
  refine ⟨φ, ρ, G, s.g, s.e, exS_ends s h fun ds G1 φ1 H1 x1 g1 s1 k p xs n e1 nm r => ⟨φ1, ρ, G1, g1, s1.e, exS_ends s1 k fun w G2 φ2 H2 x2 g2 s2 k2 v rv => ?_⟩⟩
  split at k2
  · rename_i hst
    have nm2 : p ∉ φ2.mu := fun z => by
      rcases x2.new p z with z | z
      · exact nm z
      · rw [e1] at z; cases z
    exact ⟨_, _, rfl, k2 φ2 _ H2 ⟨s2.ext, s2.kp, g2, set_rel (own_new s2.e (x2.keep _ _ e1 nm) nm2 (RpA.kp x2.kp _ r) (own_not s.e n)) rv hst, set_relB (own_newB s2.b (s.fresh n))⟩⟩
  · exact k2.elim
end
/-- x op= e -/
def LiftIp (C : C0) (r : TIp) (F : W → W → Sto → Option W) : Prop :=
  ∀ (φ : Ph) (G : Sto) (H : Hp) (x y : V) (a b c : W) (Q : VK), RelG C φ G H → RW C φ H a x → RW C φ H b y → F a b G = some c → (∀ v, RW C φ H c v → Q v H) → r x y H Q
def sAug (i : Nat) (F : W → W → Sto → Option W) (de : Fm → M W) : MS := fun ρ G => match ρ[i]? with
  | some (.val w) => exS (de ρ G) ρ fun u G' => match F w u G' with
    | some c => if stab c = true then .nx (ρ.set i (.val c)) G' else .bad
    | none => .bad
  | _ => .bad
theorem lift_ipI {C : C0} {f : Int → Int → Int} : LiftIp C (ipI f) (intsW fun i j => some (.int (f i j))) := by
  intro φ G H x y a b e Q g ra rb he k
  unfold intsW at he
  split at he
  · rename_i i j
    obtain ⟨d, hd, rfl⟩ := Option.map_eq_some_iff.mp he
    cases hd
    exact ⟨i, j, rw_int.mp ra, rw_int.mp rb, k _ (rw_int.mpr rfl)⟩
  · cases he
def addI := intsW fun i j => some (.int (i + j))
theorem ms_aug {X : Cx} {EE : EW} {pos p2 : Pos} {e : Expr} {de : Fm → M W} {F : W → W → Sto → Option W} {op : Operator} {ti : TIp} (i : Nat) {x : Str} (hN : X.N.Nodup) (ho : PIp X op ti) (hl : LiftIp (c0 X) ti F) (he : ME X EE e de)
    (hi : X.N[i]? = some x := by rfl) (hx : Loc X.env.scope x := by first | exact Or.inl rfl | exact Or.inr rfl) (hf : X.fn x = true ∨ X.env.scope.names.lookup x = some .local := by first | exact .inl rfl | exact .inr rfl) :
    MSt X EE (.AugAssign (.Name x p2) op e pos) (sAug i F de) := fun o => PS.weak (ps_aug hN hi hx he ho hf) fun D σ H h => by
  obtain ⟨φ, ρ, G, s, h⟩ := h
  unfold sAug at h
  split at h
  · rename_i w ew
    obtain ⟨_, v, e1, r⟩ := s.e.val i w ew
    refine ⟨v, e1, φ, ρ, G, s.g, s.e, exS_ends s h fun u G1 φ1 H1 x1 g1 s1 k y ry => ?_⟩
    split at k
    · rename_i c hc
      split at k
      · rename_i hst
        exact hl φ1 G1 H1 v y w u c _ g1 (r.ext x1) ry hc fun z rz => k φ1 _ H1 ⟨s1.ext, s1.kp, g1, set_rel s1.e rz hst, set_relB s1.b⟩
      · exact k.elim
    · exact k.elim
  · exact h.elim

/-! ### the store's lists are written -/
theorem RelG.put {C : C0} {φ : Ph} {G : Sto} {H : Hp} {n : Nat} {a : Addr} {xs ys : List V} {ds : List PD} (g : RelG C φ G H) (ha : φ.adr[n]? = some a) (eH : H a = some (.lst xs)) (r : RpA C H ds ys) : RelG C φ (G.set n (.lst ds)) (upd H a (.lst ys)) := by
  have kp := kp_lst (ys := ys) eH
  refine ⟨by rw [List.length_set, g.len], g.nod, g.inm, fun b hb => ?_, fun j o hj => ?_⟩
  · by_cases h : b = a
    · subst h; exact ⟨_, upd_same, trivial⟩
    · obtain ⟨o, h1, h2⟩ := g.trk b hb
      exact ⟨o, by rw [upd_ne h]; exact h1, h2⟩
  · by_cases h : n = j
    · subst h
      rw [List.getElem?_set, if_pos rfl] at hj
      split at hj
      · cases hj
        exact ⟨a, ha, ys, upd_same, RpA.kp kp _ r⟩
      · cases hj
    · rw [List.getElem?_set_ne h] at hj
      obtain ⟨b, e1, q⟩ := g.obj j o hj
      refine ⟨b, e1, ?_⟩
      have hne : b ≠ a := fun z => by
        subst z
        have h1 := (List.getElem?_eq_some_iff.mp ha)
        have h2 := (List.getElem?_eq_some_iff.mp e1)
        exact h ((List.getElem_inj g.nod).mp (h1.2.trans h2.2.symm))
      cases o with
      | lst es =>
        obtain ⟨zs, h1, h2⟩ := q
        exact ⟨zs, by rw [upd_ne hne]; exact h1, RpA.kp kp _ h2⟩
theorem Ext.put {φ : Ph} {H : Hp} {a : Addr} {xs ys : List V} (hm : a ∈ φ.mu) (eH : H a = some (.lst xs)) : Ext φ H φ (upd H a (.lst ys)) :=
  ⟨fun _ _ h => h, fun _ h => h, fun _ h => .inl h, fun b o h hb => by rw [upd_ne (fun z => hb (by rw [z]; exact hm))]; exact h, kp_lst eH⟩
/-- the list that is written: an object of the store -/
theorem obj_lst {C : C0} {φ : Ph} {G : Sto} {H : Hp} {n : Nat} {v : V} {ds : List PD} (g : RelG C φ G H) (r : RW C φ H (.obj n) v) (h : G[n]? = some (.lst ds)) : ∃ a xs, v = .ref a ∧ φ.adr[n]? = some a ∧ H a = some (.lst xs) ∧ RpA C H ds xs ∧ a ∈ φ.mu := by
  obtain ⟨a, e2, rfl⟩ := r
  obtain ⟨b, e3, xs, e4, q⟩ := g.obj n _ h
  rw [e2] at e3; cases e3
  exact ⟨a, xs, rfl, e2, e4, q, g.inm a (List.mem_of_getElem? e2)⟩
/-- o[i] = v on the store -/
def putIx (o i v : W) (G : Sto) : Option Sto := match o, i, v with
  | .obj n, .py (.int k), .py d => match G[n]? with
    | some (.lst ds) => (ixN ds.length k).map fun j => G.set n (.lst (ds.set j d))
    | none => none
  | _, _, _ => none
theorem putIx_ok {C : C0} {φ : Ph} {G G' : Sto} {H : Hp} {o i v : W} {x y z : V} {Q : Hp → Prop} (g : RelG C φ G H) (ro : RW C φ H o x) (ri : RW C φ H i y) (rv : RW C φ H v z) (h : putIx o i v G = some G')
    (k : ∀ H', Ext φ H φ H' → RelG C φ G' H' → Q H') : rSetL x y z H Q := by
  unfold putIx at h
  split at h
  · split at h
    · rename_i ds e1
      obtain ⟨j, hj, rfl⟩ := Option.map_eq_some_iff.mp h
      obtain ⟨a, xs, rfl, ha, eH, r, hm⟩ := obj_lst g ro e1
      exact ⟨a, xs, _, j, rfl, rw_int.mp ri, eH, by rw [← r.length]; exact hj, k _ (Ext.put hm eH) (g.put ha eH (r.set j rv))⟩
    · cases h
  · cases h
def sPut (do_ di dv : Fm → M W) : MS := fun ρ G => exS (dv ρ G) ρ fun v G1 => exS (do_ ρ G1) ρ fun o G2 => exS (di ρ G2) ρ fun i G3 => match putIx o i v G3 with
  | some G4 => .nx ρ G4
  | none => .bad
theorem ms_put {X : Cx} {EE : EW} {pos p2 : Pos} {o i e : Expr} {do_ di dv : Fm → M W} (he : ME X EE e dv) (ho : ME X EE o do_) (hi : ME X EE i di)
    (hs : swapsWithSole [.Subscript o i p2] e pos.line X.env = pure false := by rfl) (hw : swappedStores [.Subscript o i p2] e X.env = pure none := by rfl) (h1 : (assignEach [.Subscript o i p2] X.env).map (·.2) = [assign (.Subscript o i p2) X.env] := by rfl)
    (ha : ∀ v, assign (.Subscript o i p2) X.env v = (do
      let ov ← holding [v] (eval o X.env)
      let iv ← holding [v, ov] (eval i X.env)
      standAt p2
      holding [v, ov, iv] (setItem ov iv v)
      release [v, ov, iv] []) := by intro _; rfl) :
    MSt X EE (.Assign [.Subscript o i p2] e pos) (sPut do_ di dv) := fun og => PS.weak (ps_asg he (pg_sub ho hi set_list ha) hs hw h1) fun D σ H h => by
  obtain ⟨φ, ρ, G, s, h⟩ := h
  refine ⟨φ, ρ, G, s.g, s.e, exS_ends s h fun v G1 φ1 H1 x1 g1 s1 k z rz => ⟨φ1, ρ, G1, g1, s1.e, exS_ends s1 k fun ov G2 φ2 H2 x2 g2 s2 k2 x rx => ⟨φ2, ρ, G2, g2, s2.e, exS_ends s2 k2 fun iv G3 φ3 H3 x3 g3 s3 k3 y ry => ?_⟩⟩⟩
  split at k3
  · rename_i G4 hp
    exact putIx_ok g3 (rx.ext x3) ry ((rz.ext x2).ext x3) hp fun H' xx gg => k3 φ3 σ H' (s3.fwd xx gg)
  · exact k3.elim
/-- a list's item, by values -/
theorem get_list {X : Cx} : PGet X (rIxL X.K) := by
  intro pins s σ H o i ov iv Q I ro ri h
  obtain ⟨p, xs, k, z, rfl, rfl, hq, he, q⟩ := h
  cases ro
  obtain ⟨t, rfl⟩ := ri
  obtain ⟨its, r, pl, hz⟩ := I.list hq
  obtain ⟨j, h1, h2, h3, h4, h5⟩ := atI_get he
  obtain ⟨w, ew, rw'⟩ := r.get h2
  have hl := r.length
  have hn := line63
  have fin : EP X pins σ Q w s := ⟨z, H, I, rw', q⟩
  by_cases h0 : 0 ≤ k
  · have hj : k.toNat = j := by
      rw [seqIndex_of h0 h5] at h1
      exact Option.some.inj h1
    exact wpAny_getItem_list pl.isList h0 (by omega) (by rw [hj]; simpa using ew) fin
  · have hj : (k + (its.toArray.size : Int)).toNat = j := by
      rw [seqIndex_neg (by omega) h4] at h1
      rw [List.size_toArray, ← hl]
      exact Option.some.inj h1
    exact wpAny_getItem_list_neg pl.isList (by omega) (by rw [List.size_toArray] <;> omega) (by omega) (by rw [hj]; simpa using ew) fin
/-- what stands at a place of a list of the store -/
def getIx (o i : W) (G : Sto) : Option PD := match o, i with
  | .obj n, .py (.int k) => match G[n]? with
    | some (.lst ds) => atI ds k
    | none => none
  | _, _ => none
def sAugPut (F : W → W → Sto → Option W) (do_ di dv : Fm → M W) : MS := fun ρ G => exS (do_ ρ G) ρ fun o G1 => exS (di ρ G1) ρ fun i G2 => match getIx o i G2 with
  | some old => exS (dv ρ G2) ρ fun v G3 => match F (.py old) v G3 with
    | some c => match putIx o i c G3 with
      | some G4 => .nx ρ G4
      | none => .bad
    | none => .bad
  | none => .bad
theorem ms_augPut {X : Cx} {EE : EW} {pos p2 : Pos} {o i e : Expr} {do_ di dv : Fm → M W} {op : Operator} {ti : TIp} {F : W → W → Sto → Option W} (hp : PIp X op ti) (hl : LiftIp (c0 X) ti F) (ho : ME X EE o do_) (hi : ME X EE i di) (he : ME X EE e dv)
    (ha : ∀ ov iv new, augStore i ov iv new = (do holding [new, ov, iv] (setItem ov iv new); release [new, ov, iv] []; pure .next) := by intros; rfl) :
    MSt X EE (.AugAssign (.Subscript o i p2) op e pos) (sAugPut F do_ di dv) := fun og => PS.weak (ps_augS ho hi get_list he hp set_list ha) fun D σ H h => by
  obtain ⟨φ, ρ, G, s, h⟩ := h
  refine ⟨φ, ρ, G, s.g, s.e, exS_ends s h fun ov G1 φ1 H1 x1 g1 s1 k x rx => ⟨φ1, ρ, G1, g1, s1.e, exS_ends s1 k fun iv G2 φ2 H2 x2 g2 s2 k2 y ry => ?_⟩⟩
  split at k2
  · rename_i old hold
    unfold getIx at hold
    split at hold
    · split at hold
      · rename_i ds e1
        obtain ⟨a, xs, rfl, ha, eH, r, hm⟩ := obj_lst g2 (rx.ext x2) e1
        obtain ⟨v, hv, rv⟩ := atI_rp r hold
        refine ⟨a, xs, _, v, rfl, rw_int.mp ry, .inl (.inl eH), hv, φ2, ρ, G2, g2, s2.e, exS_ends s2 k2 fun u G3 φ3 H3 x3 g3 s3 k3 z rz => ?_⟩
        split at k3
        · rename_i c hc
          split at k3
          · rename_i G4 hp4
            refine hl φ3 G3 H3 v z _ u c _ g3 (rw_py.mpr (Rp.kp x3.kp _ rv)) rz hc fun nv rn => ?_
            exact putIx_ok g3 ((rx.ext x2).ext x3) (ry.ext x3) rn hp4 fun H' xx gg => k3 φ3 σ H' (s3.fwd xx gg)
          · exact k3.elim
        · exact k3.elim
      · cases hold
    · cases hold
  · exact k2.elim

/-! ### lists of the frame are written -/
theorem own_put {C : C0} {φ : Ph} {ρ : Fm} {σ : L2.St} {H : Hp} {i : Nat} {ds es : List PD} {xs ys : List V} {a : Addr} (e : RelE C φ ρ σ H) (hi : ρ[i]? = some (.own ds)) (hσ : σ[i]? = some (some (.ref a))) (eH : H a = some (.lst xs)) (nm : a ∉ φ.mu) (r : RpA C H es ys) :
    RelE C φ (ρ.set i (.own es)) σ (upd H a (.lst ys)) := by
  have kp := kp_lst (ys := ys) eH
  have key : ∀ (j : Nat) dj, (ρ.set i (.own es))[j]? = some (.own dj) → ∃ dj', ρ[j]? = some (.own dj') := fun j dj q => by
    by_cases h : i = j
    · subst h; exact ⟨ds, hi⟩
    · rw [List.getElem?_set_ne h] at q; exact ⟨dj, q⟩
  refine ⟨by rw [List.length_set, e.len], fun j x hx => ?_, fun j dj hx => ?_, fun j k dj dk b h1 h2 h3 h4 => ?_⟩
  · have nj : i ≠ j := fun z => by
      subst z
      rw [List.getElem?_set, if_pos rfl] at hx
      split at hx <;> cases hx
    rw [List.getElem?_set_ne nj] at hx
    obtain ⟨s, v, e1, q⟩ := e.val j x hx
    exact ⟨s, v, e1, q.kp kp (fun _ _ z => z) s⟩
  · by_cases h : i = j
    · subst h
      rw [List.getElem?_set, if_pos rfl] at hx
      split at hx
      · cases hx
        exact ⟨a, ys, hσ, upd_same, RpA.kp kp _ r, nm⟩
      · cases hx
    · rw [List.getElem?_set_ne h] at hx
      obtain ⟨b, zs, e1, e2, q, nb⟩ := e.own j dj hx
      have hne : b ≠ a := fun z => by
        subst z
        exact h (e.sep i j ds dj b hi hx hσ e1)
      exact ⟨b, zs, e1, by rw [upd_ne hne]; exact e2, RpA.kp kp _ q, nb⟩
  · obtain ⟨dj', h1⟩ := key j dj h1
    obtain ⟨dk', h2⟩ := key k dk h2
    exact e.sep j k dj' dk' b h1 h2 h3 h4
theorem own_putB {H0 : Hp} {ρ : Fm} {σ : L2.St} {i : Nat} {ds es : List PD} (b : RelB H0 ρ σ) (hi : ρ[i]? = some (.own ds)) : RelB H0 (ρ.set i (.own es)) σ := fun j dj c h1 h2 => by
  by_cases h : i = j
  · subst h; exact b i ds c hi h2
  · rw [List.getElem?_set_ne h] at h1
    exact b j dj c h1 h2
theorem StR.own {C : C0} {o : Org} {φ : Ph} {ρ : Fm} {G : Sto} {σ : L2.St} {H : Hp} {i : Nat} {ds es : List PD} {xs ys : List V} {a : Addr} (s : StR C o φ ρ G σ H) (hi : ρ[i]? = some (.own ds)) (hσ : σ[i]? = some (some (.ref a))) (eH : H a = some (.lst xs)) (nm : a ∉ φ.mu) (r : RpA C H es ys) :
    StR C o φ (ρ.set i (.own es)) G σ (upd H a (.lst ys)) :=
  ⟨s.ext.mut1 (s.b i ds a hi hσ), s.kp.trans (kp_lst eH), s.g.beside eH nm, own_put s.e hi hσ eH nm r, own_putB s.b hi⟩
/-- .extend of a list that may be read -/
def rExtendR : V → List V → Hp → VK → Prop := fun x vs H Q => ∃ l b xs zs, x = .ref l ∧ vs = [.ref b] ∧ H l = some (.lst xs) ∧ Rd H b (.lst zs) ∧ xs.length + zs.length ≤ sizeLine ∧ Q .non (upd H l (.lst (xs ++ zs)))
theorem mt_extendR {X : Cx} : MtM X "list.extend" rExtendR := by
  intro pins s σ H x vs v us Q I rx rv h
  obtain ⟨l, b, xs, zs, rfl, rfl, hH, hB, hz, q⟩ := h
  cases rx
  obtain ⟨u, rfl, ru⟩ := rv.one
  cases ru
  obtain ⟨z, its, n, r, hl, e⟩ := I.lstM hH
  obtain ⟨z2, its2, n2, r2, hl2, e2⟩ := Inv.rdM I hB
  have hsz : its.toArray.size + its2.toArray.size ≤ sizeLine := by rw [List.size_toArray, List.size_toArray]; omega
  have hlong : ¬ (!its.toArray.isEmpty && Builtin.List.listTooLong (its.toArray.size + its2.toArray.size)) = true := by
    rw [notLongL hsz, Bool.and_false]
    exact Bool.false_ne_true
  refine call_meets F.slot_list_extend ⟨_, e, rfl⟩ F.entry_list_extend (F.args_list_extend_2 _ _)
    (AutoSeq1.list_extend_list_list_0 l its.toArray n b its2.toArray n2 hlong (by rw [List.size_toArray]; omega) (by omega)) ⟨e, e2, ?_⟩
  refine ⟨.non, _, I.lset (its' := its ++ its2) hH e (by simp) (r.append r2) ?_, rfl, q⟩
  rw [List.length_append]
  omega
/-- a method of a list, by what it makes of its items: the answer, the items behind -/
def LiftOM (C : C0) (r : V → List V → Hp → VK → Prop) (F : List PD → List W → Sto → Option (W × List PD)) : Prop :=
  ∀ (φ : Ph) (G : Sto) (H : Hp) (a : Addr) (xs : List V) (ds es : List PD) (vs : List V) (ws : List W) (w : W) (Q : VK), RelG C φ G H → H a = some (.lst xs) → RpA C H ds xs → RWA C φ H ws vs → F ds ws G = some (w, es) →
    (∀ ys v, RpA C H es ys → RW C φ H w v → stab w = true → Q v (upd H a (.lst ys))) → r (.ref a) vs H Q
def appendF (ds : List PD) (ws : List W) (_ : Sto) : Option (W × List PD) := match ws with
  | [.py d] => if ds.length < 16777216 then some (.py .none, ds ++ [d]) else none
  | _ => none
def extendF (ds : List PD) (ws : List W) (G : Sto) : Option (W × List PD) := match ws with
  | [a] => match lstOf a G with
    | some es => if ds.length + es.length ≤ 16777216 then some (.py .none, ds ++ es) else none
    | none => none
  | _ => none
def popF (ds : List PD) (ws : List W) (_ : Sto) : Option (W × List PD) := match ws with
  | [] => (ds[ds.length - 1]?).map fun d => (.py d, ds.dropLast)
  | _ => none
def popAtF (ds : List PD) (ws : List W) (_ : Sto) : Option (W × List PD) := match ws with
  | [.py (.int i)] => if (decide (-1000000000000 ≤ i) && decide (i ≤ 1000000000000)) = true then match seqIndex? i ds.length with
    | some k => (ds[k]?).map fun d => (.py d, ds.eraseIdx k)
    | none => none
    else none
  | _ => none
theorem lift_append {C : C0} : LiftOM C rAppend appendF := by
  intro φ G H a xs ds es vs ws w Q g eH r rs h k
  unfold appendF at h
  split at h
  · split at h
    · rename_i hz
      cases h
      obtain ⟨v, rfl, r1⟩ := rwa1 rs
      exact ⟨a, xs, v, rfl, rfl, eH, by rw [sizeLine_eq, ← r.length]; exact hz, k _ _ (r.append (.cons r1 .nil)) (rw_none.mpr rfl) rfl⟩
    · cases h
  · cases h
theorem lift_extend {C : C0} : LiftOM C rExtendR extendF := by
  intro φ G H a xs ds es vs ws w Q g eH r rs h k
  unfold extendF at h
  split at h
  · split at h
    · rename_i fs hf
      split at h
      · rename_i hz
        cases h
        obtain ⟨v, rfl, r1⟩ := rwa1 rs
        obtain ⟨p, zs, rfl, f, q⟩ := lstOf_rd g r1 hf
        exact ⟨a, p, xs, zs, rfl, rfl, eH, f, by rw [sizeLine_eq, ← r.length, ← q.length]; exact hz, k _ _ (r.append q) (rw_none.mpr rfl) rfl⟩
      · cases h
    · cases h
  · cases h
theorem lift_pop {C : C0} : LiftOM C rPop popF := by
  intro φ G H a xs ds es vs ws w Q g eH r rs h k
  unfold popF at h
  split at h
  · obtain ⟨d, hd, e⟩ := Option.map_eq_some_iff.mp h
    cases e
    obtain ⟨v, hv, rv⟩ := r.get hd
    exact ⟨a, xs, v, rfl, rs, eH, by rw [← r.length]; exact hv, k _ _ r.dropLast rv rfl⟩
  · cases h
theorem RpA.eraseIdx {C : C0} {H : Hp} : ∀ {ds : List PD} {vs : List V} (n : Nat), RpA C H ds vs → RpA C H (ds.eraseIdx n) (vs.eraseIdx n)
  | [], _, _, h => by rw [rpA_nil.mp h]; exact .nil
  | d :: ds, _, 0, h => by
    obtain ⟨v, r, rfl, p, t⟩ := rpA_cons.mp h
    exact t
  | d :: ds, _, n + 1, h => by
    obtain ⟨v, r, rfl, p, t⟩ := rpA_cons.mp h
    exact .cons p (RpA.eraseIdx n t)
theorem lift_popAt {C : C0} : LiftOM C rPopAt popAtF := by
  intro φ G H a xs ds es vs ws w Q g eH r rs h k
  unfold popAtF at h
  split at h
  · split at h
    · rename_i hz
      simp only [Bool.and_eq_true, decide_eq_true_eq] at hz
      split at h
      · rename_i j hj
        obtain ⟨d, hd, e⟩ := Option.map_eq_some_iff.mp h
        cases e
        obtain ⟨v, rfl, r1⟩ := rwa1 rs
        obtain ⟨u, hu, ru⟩ := r.get hd
        exact ⟨a, xs, _, j, u, rfl, by rw [rw_int.mp r1], eH, by omega, by omega, by rw [← r.length]; exact hj, hu, k _ _ (RpA.eraseIdx j r) ru rfl⟩
      · cases h
    · cases h
  · cases h
/-- x.m(..), x a list of the frame; the answer goes by -/
def sOwnM (i : Nat) (F : List PD → List W → Sto → Option (W × List PD)) (as : Fm → M (List W)) : MS := fun ρ G => match ρ[i]? with
  | some (.own ds) => exS (as ρ G) ρ fun ws G' => match F ds ws G' with
    | some (_, es) => .nx (ρ.set i (.own es)) G'
    | none => .bad
  | _ => .bad
/-- y = x.m(..) -/
def sOwnMS (i j : Nat) (F : List PD → List W → Sto → Option (W × List PD)) (as : Fm → M (List W)) : MS := fun ρ G => match ρ[i]? with
  | some (.own ds) => exS (as ρ G) ρ fun ws G' => match F ds ws G' with
    | some (w, es) => .nx ((ρ.set i (.own es)).set j (.val w)) G'
    | none => .bad
  | _ => .bad
section
variable {X : Cx} {EE : EW} {p1 p2 apos cpos pos : Pos} {x y name : Str} {e : Expr} {es : List Expr} {dr : Fm → M (List W)} {T id : String} {r : V → List V → Hp → VK → Prop} {F : List PD → List W → Sto → Option (W × List PD)}
theorem ownM_core {C : C0} {o : Org} {φ : Ph} {ρ : Fm} {G : Sto} {σ : L2.St} {H : Hp} {i : Nat} {ds : List PD} {t : TA} {Q : VK} (hl : LiftOM C r F) (w : ∀ Q, tMA C EE dr σ H Q → t σ H Q) (s : StR C o φ ρ G σ H) (hi : ρ[i]? = some (.own ds))
    (h : endsE C EE φ ρ σ H (fun ws G' φ' H' => ∀ es w, F ds ws G' = some (w, es) → ∀ a ys v, σ[i]? = some (some (.ref a)) → StR C o φ' (ρ.set i (.own es)) G' σ (upd H' a (.lst ys)) → RW C φ' (upd H' a (.lst ys)) w v → stab w = true → Q v (upd H' a (.lst ys))) (dr ρ G))
    (hok : ∀ ws G', dr ρ G = .ok ws G' → ∃ w es, F ds ws G' = some (w, es)) :
    ∃ v, σ[i]? = some (some v) ∧ tyV C.K "list" v H ∧ t σ H fun xs H2 => r v xs H2 Q := by
  obtain ⟨a, xs, e1, e2, ra, nm⟩ := s.e.own i ds hi
  refine ⟨.ref a, e1, .inl ⟨rfl, xs, .inl (.inl e2)⟩, w _ ⟨φ, ρ, G, s.g, s.e, ?_⟩⟩
  cases hd : dr ρ G with
  | bad => rw [hd] at h; exact h
  | exc x G1 => rw [hd] at h; exact h
  | ok ws G1 =>
    rw [hd] at h
    intro φ1 H1 x1 g1 vs rvs
    obtain ⟨w, es, hF⟩ := hok ws G1 hd
    have eH1 := x1.keep _ _ e2 nm
    have s1 := s.fwd x1 g1
    have nm1 : a ∉ φ1.mu := fun z => by
      rcases x1.new a z with z | z
      · exact nm z
      · rw [e2] at z; cases z
    refine hl φ1 G1 H1 a xs ds es vs ws w _ g1 eH1 (RpA.kp x1.kp _ ra) rvs hF fun ys v ry rv st => ?_
    exact h φ1 H1 x1 g1 es w hF a ys v e1 (s1.own hi e1 eH1 nm1 ry) (rv.kp (kp_lst eH1) (fun _ _ z => z) st) st
theorem ms_ownM (i : Nat) (slot : PySem.Slot "list" name id) (hty : typeOf (.builtin id) = pure (.type "method_descriptor")) (hm : MtR X id r) (hl : LiftOM (c0 X) r F) (ha : MA X EE (e :: es) dr) (hN : X.N[i]? = some x := by rfl) (hv : Vis X.env.scope x := by first | exact Or.inl rfl | exact Or.inr (Or.inl rfl) | exact Or.inr (Or.inr rfl))
    (hd : (x == ("__debug__" : Str)) = false := by decide) (hcd : (x == ("__classdict__" : Str)) = false := by decide)
    (hbase : attributeBase (.Name x p1) name X.env (eval (.Name x p1) X.env) = eval (.Name x p1) X.env := by rfl)
    (hfew : ((backTo cpos (starEach (e :: es) X.env)).all (fun x => !x.1) && (backToKw cpos (keywordEach [] X.env)).all (fun x => x.1.isSome)
      && decide ((e :: es).length + ([] : List Keyword).length + (if ([] : List Keyword).isEmpty then 0 else 1) < 30)) = true := by rfl)
    (hline : (apos.endLine == cpos.line) = true := by rfl) (hs : starEach (e :: es) X.env = (false, eval e X.env) :: starEach es X.env := by rfl) (hplain : (backTo cpos (starEach es X.env)).any (·.1) = false := by rfl)
    (hsw : swapsWith (.Call (.Attribute (.Name x p1) name apos) (e :: es) [] cpos) none pos.line X.env = pure false := by rfl) :
    MSt X EE (.Expr (.Call (.Attribute (.Name x p1) name apos) (e :: es) [] cpos) pos) (sOwnM i F dr) := fun o => PS.weak (ps_expr (pe_bm PySem.F.plainAttrs_list slot hty hm (pe_var hN hv hd hcd) ha hbase hfew hline hs hplain) hsw) fun D σ H h => by
  obtain ⟨φ, ρ, G, s, h⟩ := h
  unfold sOwnM at h
  cases hi : ρ[i]? with
  | none => rw [hi] at h; exact h.elim
  | some sl =>
    rw [hi] at h
    cases sl with
    | none => exact h.elim
    | val w => exact h.elim
    | own ds =>
      dsimp only at h
      refine ownM_core (o := o) (ρ := ρ) (G := G) hl (fun _ q => q) s hi ?_ ?_
      · refine exS_ends s h fun ws G1 φ1 H1 x1 g1 s1 k es w hF a ys v e1 s2 rv st => ?_
        rw [hF] at k
        exact k φ1 σ _ s2
      · intro ws G1 hd
        cases hF : F ds ws G1 with
        | none => rw [exS_ok hd, hF] at h; exact h.elim
        | some p => exact ⟨p.1, p.2, rfl⟩
theorem ms_ownMS (i j : Nat) {y : Str} {py : Pos} (slot : PySem.Slot "list" name id) (hty : typeOf (.builtin id) = pure (.type "method_descriptor")) (hm : MtR X id r) (hl : LiftOM (c0 X) r F) (hNd : X.N.Nodup) (hN : X.N[i]? = some x := by rfl) (hv : Vis X.env.scope x := by first | exact Or.inl rfl | exact Or.inr (Or.inl rfl) | exact Or.inr (Or.inr rfl))
    (hj : X.N[j]? = some y := by rfl) (hx : Loc X.env.scope y := by first | exact Or.inl rfl | exact Or.inr rfl)
    (hd : (x == ("__debug__" : Str)) = false := by decide) (hcd : (x == ("__classdict__" : Str)) = false := by decide)
    (hbase : attributeBase (.Name x p1) name X.env (eval (.Name x p1) X.env) = eval (.Name x p1) X.env := by rfl)
    (hline : (apos.endLine == cpos.line) = true := by rfl)
    (hs : swapsWith (.Call (.Attribute (.Name x p1) name apos) [] [] cpos) (some (.Name y py)) pos.line X.env = pure false := by rfl) (hf : X.fn y = true ∨ X.env.scope.names.lookup y = some .local := by first | exact .inl rfl | exact .inr rfl) :
    MSt X EE (.Assign [.Name y py] (.Call (.Attribute (.Name x p1) name apos) [] [] cpos) pos) (sOwnMS i j F dNil) := fun o => PS.weak (ps_set hNd hj hx (pe_bm0 PySem.F.plainAttrs_list slot hty hm (pe_var hN hv hd hcd) hbase hline) hs hf) fun D σ H h => by
  obtain ⟨φ, ρ, G, s, h⟩ := h
  unfold sOwnMS at h
  cases hi : ρ[i]? with
  | none => rw [hi] at h; exact h.elim
  | some sl =>
    rw [hi] at h
    cases sl with
    | none => exact h.elim
    | val w => exact h.elim
    | own ds =>
      dsimp only at h
      refine ownM_core (EE := EE) (t := tNil) (dr := dNil) (o := o) (ρ := ρ) (G := G) hl (fun Q q => ?_) s hi ?_ ?_
      · obtain ⟨φ, ρ, G, g, e, q⟩ := q
        exact q φ _ (.refl _ _) g [] rfl
      · refine exS_ends s h fun ws G1 φ1 H1 x1 g1 s1 k es w hF a ys v e1 s2 rv st => ?_
        rw [hF] at k
        exact k φ1 _ _ ⟨s2.ext, s2.kp, s2.g, set_rel s2.e rv st, set_relB s2.b⟩
      · intro ws G1 hd
        cases hF : F ds ws G1 with
        | none => rw [exS_ok hd, hF] at h; exact h.elim
        | some p => exact ⟨p.1, p.2, rfl⟩
end

/-! ### for, while -/
def forL (b : Bnd) (body : MS) : List PD → MS
  | [] => fun ρ G => .nx ρ G
  | d :: ds => fun ρ G => match b (.py d) ρ with
    | none => .bad
    | some ρ1 => match body ρ1 G with
      | .nx ρ2 G2 => forL b body ds ρ2 G2
      | .ct ρ2 G2 => forL b body ds ρ2 G2
      | .bk ρ2 G2 => .nx ρ2 G2
      | r => r
def sFor (di : Fm → M (List PD)) (b : Bnd) (body : MS) : MS := fun ρ G => exS (di ρ G) ρ fun ds G' => forL b body ds ρ G'
def whL (c : Fm → M Bool) (body : MS) : Nat → MS
  | 0 => fun _ _ => .bad
  | n + 1 => fun ρ G => exS (c ρ G) ρ fun t G1 => if t = true then match body ρ G1 with
      | .nx ρ2 G2 => whL c body n ρ2 G2
      | .ct ρ2 G2 => whL c body n ρ2 G2
      | .bk ρ2 G2 => .nx ρ2 G2
      | r => r
    else .nx ρ G1
section
variable {X : Cx} {EE : EW} {pos : Pos} {tg iter c : Expr} {st : List Stmt} {di : Fm → M (List PD)} {ts : List Nat} {b : Bnd} {body : MS} {dt : Fm → M Bool}
theorem StR.re {C : C0} {o : Org} {φ : Ph} {ρ : Fm} {G : Sto} {σ : L2.St} {H Hk : Hp} (s : StR C o φ ρ G σ H) (k : Kp Hk H) : StR C ⟨o.φ, o.H, Hk⟩ φ ρ G σ H := ⟨s.ext, k, s.g, s.e, s.b⟩
theorem StR.un {C : C0} {o : Org} {φ : Ph} {ρ : Fm} {G : Sto} {σ : L2.St} {H Hk : Hp} (s : StR C ⟨o.φ, o.H, Hk⟩ φ ρ G σ H) (k : Kp o.Hk Hk) : StR C o φ ρ G σ H := ⟨s.ext, k.trans s.kp, s.g, s.e, s.b⟩
structure ForAt (C : C0) (EE : EW) (o : Org) (D : Ends) (b : Bnd) (body : MS) (ds : List PD) (H1 : Hp) (i m : Nat) (σ : L2.St) (H : Hp) : Prop where
  out : ∃ φ ρ G, m = ds.length - i ∧ i ≤ ds.length ∧ Kp H1 H ∧ StR C o φ ρ G σ H ∧ endS C EE o D (forL b body (ds.drop i) ρ G)
theorem ms_for (hp : PassesOwn (model X.prog X.w) X.A X.env X.xe) (hc : X.calm = true) (hi : MIS X EE tg iter di) (hg : MG X tg ts b) (hb : MSs X EE st body)
    (hs : ∀ x, foldedSetIterable iter X.env x = pure x := by intro _; rfl) : MSt X EE (.For tg iter st [] pos) (sFor di b body) := by
  intro o
  refine ⟨fun pins s σ H D I h => ?_⟩
  -- the heap where the walk begins is known only inside: the body's reading is taken by its start
  have tb : PSs X st (fun D σ H => ∃ Hk, tS (c0 X) EE ⟨o.φ, o.H, Hk⟩ body D σ H) := ⟨fun pins s σ H D I ⟨Hk, h⟩ => (hb ⟨o.φ, o.H, Hk⟩).run pins s σ H D I h⟩
  refine (ps_for hp hc hi hg tb hs).run pins s σ H D I ?_
  obtain ⟨φ, ρ, G, s0, h⟩ := h
  refine ⟨φ, ρ, G, s0.g, s0.e, exS_ends s0 h fun ds G1 φ1 H1 x1 g1 s1 k J ok => ?_⟩
  refine ⟨ForAt (c0 X) EE o D b body ds H1, ⟨ds.length, ⟨φ1, ρ, G1, by simp, Nat.zero_le _, .refl _, s1, by rw [List.drop_zero]; exact k⟩⟩, fun i m σ2 H2 w => ?_⟩
  obtain ⟨φ2, ρ2, G2, hm, hi2, k2, s2, e2⟩ := w.out
  obtain ⟨okG, okS⟩ := ok H2 k2 i
  by_cases hlt : i < ds.length
  · have hdi : ds[i]? = some ds[i] := List.getElem?_eq_getElem hlt
    obtain ⟨go, yl⟩ := okG _ hdi
    refine .inr ⟨go, ForAt (c0 X) EE o D b body ds H1 (i + 1) (ds.length - (i + 1)), fun σ' H' w' => ⟨_, by omega, w'⟩, fun x H' y => ?_⟩
    obtain ⟨gr, rx⟩ := yl x H' y
    have x2' : Ext φ2 H2 φ2 H' := gr.ext
    have g2' : RelG (c0 X) φ2 G2 H' := s2.g.kp x2'.kp fun a o _ h => gr a o h
    have s2' := s2.fwd x2' g2'
    rw [List.drop_eq_getElem_cons hlt] at e2
    unfold forL at e2
    cases hb1 : b (.py ds[i]) ρ2 with
    | none => rw [hb1] at e2; exact e2.elim
    | some ρ3 =>
      rw [hb1] at e2
      refine ⟨φ2, ρ2, .py ds[i], ρ3, s2'.e, rx, hb1, fun σ3 e3 sb3 b3 => ?_⟩
      have s3 : StR (c0 X) o φ2 ρ3 G2 σ3 H' := ⟨s2'.ext, s2'.kp, s2'.g, e3, b3 _ s2'.b⟩
      refine ⟨H1, φ2, ρ3, G2, s3.re (k2.trans x2'.kp), ?_⟩
      have kk : Kp o.Hk H1 := s1.kp
      dsimp only at e2
      have again : ∀ ρ4 G4, endS (c0 X) EE o D (forL b body (ds.drop (i + 1)) ρ4 G4) → ∀ φ4 σ4 H4, StR (c0 X) ⟨o.φ, o.H, H1⟩ φ4 ρ4 G4 σ4 H4 → ForAt (c0 X) EE o D b body ds H1 (i + 1) (ds.length - (i + 1)) σ4 H4 := fun ρ4 G4 e4 φ4 σ4 H4 s4 =>
        ⟨φ4, ρ4, G4, rfl, hlt, s4.kp, s4.un kk, e4⟩
      cases hr : body ρ3 G2 with
      | nx ρ4 G4 => rw [hr] at e2; exact again ρ4 G4 e2
      | ct ρ4 G4 => rw [hr] at e2; exact again ρ4 G4 e2
      | bk ρ4 G4 => rw [hr] at e2; exact fun φ4 σ4 H4 s4 => e2 φ4 σ4 H4 (s4.un kk)
      | rt w G4 => rw [hr] at e2; exact e2
      | exc x ρ4 G4 => rw [hr] at e2; exact fun φ4 σ4 H4 s4 => e2 φ4 σ4 H4 (s4.un kk)
      | bad => rw [hr] at e2; exact e2
  · have hie : i = ds.length := by omega
    refine .inl ⟨okS hie, ?_⟩
    rw [hie, List.drop_length] at e2
    exact e2 φ2 σ2 H2 s2
open Classical in
/-- some number of turns is enough -/
noncomputable def sWhile (c : Fm → M Bool) (body : MS) : MS := fun ρ G => if h : ∃ n, whL c body n ρ G ≠ .bad then whL c body h.choose ρ G else .bad
theorem ms_while (hp : PassesOwn (model X.prog X.w) X.A X.env X.xe) (hc : MT X EE c dt) (hb : MSs X EE st body) : MSt X EE (.While c st [] pos) (sWhile dt body) := by
  intro o
  refine PS.weak (ps_while hp hc (hb o)) fun D σ H h => ?_
  obtain ⟨φ, ρ, G, s, h⟩ := h
  have hn : ∃ n, endS (c0 X) EE o D (whL dt body n ρ G) := by
    unfold sWhile at h
    split at h
    · exact ⟨_, h⟩
    · exact h.elim
  obtain ⟨n, h⟩ := hn
  refine ⟨fun m σ H => ∃ φ ρ G, StR (c0 X) o φ ρ G σ H ∧ endS (c0 X) EE o D (whL dt body m ρ G), ⟨n, φ, ρ, G, s, h⟩, fun m σ2 H2 w => ?_⟩
  obtain ⟨φ2, ρ2, G2, s2, e2⟩ := w
  cases m with
  | zero => exact e2.elim
  | succ m =>
    unfold whL at e2
    refine ⟨φ2, ρ2, G2, s2.g, s2.e, exS_ends s2 e2 fun t G3 φ3 H3 x3 g3 s3 k => ?_⟩
    cases t with
    | false => exact k φ3 σ2 H3 s3
    | true =>
      rw [if_pos rfl] at k
      refine ⟨fun σ H => ∃ φ ρ G, StR (c0 X) o φ ρ G σ H ∧ endS (c0 X) EE o D (whL dt body m ρ G), fun σ' H' q => ⟨m, Nat.lt_succ_self m, q⟩, φ3, ρ2, G3, s3, ?_⟩
      cases hr : body ρ2 G3 with
      | nx ρ4 G4 => rw [hr] at k; exact fun φ4 σ4 H4 s4 => ⟨φ4, ρ4, G4, s4, k⟩
      | ct ρ4 G4 => rw [hr] at k; exact fun φ4 σ4 H4 s4 => ⟨φ4, ρ4, G4, s4, k⟩
      | bk ρ4 G4 => rw [hr] at k; exact k
      | rt w G4 => rw [hr] at k; exact k
      | exc x ρ4 G4 => rw [hr] at k; exact k
      | bad => rw [hr] at k; exact k
end
/-- more turns do not change what was reached -/
theorem whL_mono {c : Fm → M Bool} {body : MS} : ∀ {n m : Nat} {ρ : Fm} {G : Sto}, n ≤ m → whL c body n ρ G ≠ .bad → whL c body m ρ G = whL c body n ρ G
  | 0, _, _, _, _, h => (h rfl).elim
  | n + 1, 0, _, _, hm, _ => by omega
  | n + 1, m + 1, ρ, G, hm, h => by
    unfold whL at h ⊢
    cases hc : c ρ G with
    | bad => rfl
    | exc x G1 => rfl
    | ok t G1 =>
      rw [hc] at h
      unfold exS at h ⊢
      dsimp only at h ⊢
      cases t with
      | false => rfl
      | true =>
        rw [if_pos rfl] at h ⊢
        rw [if_pos rfl]
        cases hb : body ρ G1 with
        | nx ρ2 G2 => rw [hb] at h; exact whL_mono (Nat.le_of_succ_le_succ hm) h
        | ct ρ2 G2 => rw [hb] at h; exact whL_mono (Nat.le_of_succ_le_succ hm) h
        | bk ρ2 G2 => rfl
        | rt w G2 => rfl
        | exc x ρ2 G2 => rfl
        | bad => rfl
theorem sWhile_eq {c : Fm → M Bool} {body : MS} {ρ : Fm} {G : Sto} {r : RS} (n : Nat) (h : whL c body n ρ G = r) (hr : r ≠ .bad) : sWhile c body ρ G = r := by
  have hx : ∃ n, whL c body n ρ G ≠ .bad := ⟨n, by rw [h]; exact hr⟩
  unfold sWhile
  rw [dif_pos hx]
  have h1 := hx.choose_spec
  have h2 := whL_mono (Nat.le_max_left n hx.choose) (ρ := ρ) (G := G) (c := c) (body := body) (by rw [h]; exact hr)
  have h3 := whL_mono (Nat.le_max_right n hx.choose) h1
  rw [← h3, h2, h]

/-! ### a def -/
def fm0 (n : Nat) (ws : List W) : Fm := ws.map Slot.val ++ List.replicate (n - ws.length) .none
def fnD (n : Nat) (body : MS) (ws : List W) : M W := fun G => match body (fm0 n ws) G with
  | .rt w G' => .ok w G'
  | .nx _ G' => .ok (.py .none) G'
  | .exc x _ G' => .exc x G'
  | _ => .bad
theorem start_rel {C : C0} {φ : Ph} {H : Hp} {N : List Str} {ws : List W} {vs : List V} (r : RWA C φ H ws vs) (s : ws.all stab = true) : RelE C φ (fm0 N.length ws) (L2.start N vs) H := by
  have key : ∀ (ws : List W) (vs : List V), RWA C φ H ws vs → ws.all stab = true → ∀ (i : Nat) w, (ws.map Slot.val)[i]? = some (.val w) → stab w = true ∧ ∃ v, (vs.map some)[i]? = some (some v) ∧ RW C φ H w v := by
    intro ws
    induction ws with
    | nil => intro vs _ _ i w h; simp at h
    | cons a ws ih =>
      intro vs r s i w h
      obtain ⟨v, vr, rfl, r1, r2⟩ := r
      rw [List.all_cons, Bool.and_eq_true] at s
      cases i with
      | zero =>
        simp at h
        subst h
        exact ⟨s.1, v, rfl, r1⟩
      | succ i =>
        obtain ⟨p, u, e, q⟩ := ih vr r2 s.2 i w (by simpa using h)
        exact ⟨p, u, by simpa using e, q⟩
  have hl : ws.length = vs.length := r.length
  have nown : ∀ (i : Nat) ds, (fm0 N.length ws)[i]? ≠ some (.own ds) := fun i ds h => by
    unfold fm0 at h
    by_cases hi : i < (ws.map Slot.val).length
    · rw [List.getElem?_append_left hi, List.getElem?_map] at h
      obtain ⟨w, _, e⟩ := Option.map_eq_some_iff.mp h
      cases e
    · rw [List.getElem?_append_right (Nat.le_of_not_lt hi)] at h
      have := List.mem_of_getElem? h
      rw [List.mem_replicate] at this
      exact nomatch this.2
  refine ⟨?_, fun i w h => ?_, fun i ds h => (nown i ds h).elim, fun i j di dj a h => (nown i di h).elim⟩
  · unfold fm0 L2.start
    rw [List.length_append, List.length_append, List.length_map, List.length_map, List.length_replicate, List.length_replicate, hl]
  · unfold fm0 at h
    by_cases hi : i < (ws.map Slot.val).length
    · rw [List.getElem?_append_left hi] at h
      obtain ⟨p, v, e, q⟩ := key ws vs r s i w h
      refine ⟨p, v, ?_, q⟩
      unfold L2.start
      rw [List.getElem?_append_left (by rw [List.length_map, ← hl]; rw [List.length_map] at hi; exact hi)]
      exact e
    · rw [List.getElem?_append_right (Nat.le_of_not_lt hi)] at h
      have := List.mem_of_getElem? h
      rw [List.mem_replicate] at this
      exact nomatch this.2
section
variable {P : Program} {w : World} {K : PySem.W.Frag} {mg : Str → Option Value} {base : Heap}
/-- THE RULE for a def: from the reading of its body -/
theorem fn_mk {x qual : Str} {st : Stmt} {f : Addr} {fd : FuncData} {N ps : List Str} {n k : Nat} {body : MS} (F : Fun K x qual st f fd) (S : FnScope N ps (defScope st)) (hl : ps.length = n) (hn : N.length = nn)
    (hb : ∀ (cdv : Value) (A : Around) (outer : List Env) (s : Shared) (H : Hp) (E : XK), Room k (A.deeper (envOfC qual (defScope st) s.heap.objs.size f cdv)) →
      MSs (cxOf CX0 P w K mg base N qual (defScope st) f cdv A outer s H E).nox EW0 (defBody st) body) : FnOk P w K mg base CX0 (k + 1) f fd ps (spD ⟨P, w, K⟩ n (fnD nn body)) := by
  refine F.ok S (spD_len hl) fun cdv A outer s H vs Q E hr h => ?_
  obtain ⟨φ, G, ws, g, r, st, hlw, w', G', hm, q⟩ := h
  refine ⟨_, hb cdv A outer s H E hr ⟨φ, H, H⟩, φ, fm0 nn ws, G, ⟨.refl _ _, .refl _, g, by rw [← hn]; exact start_rel r st, fun i ds a h1 h2 => ?_⟩, ?_⟩
  · have := (start_rel (N := N) r st).own i ds (by rw [hn]; exact h1)
    exfalso
    unfold fm0 at h1
    by_cases hi : i < (ws.map Slot.val).length
    · rw [List.getElem?_append_left hi, List.getElem?_map] at h1
      obtain ⟨w, _, e⟩ := Option.map_eq_some_iff.mp h1
      cases e
    · rw [List.getElem?_append_right (Nat.le_of_not_lt hi)] at h1
      have := List.mem_of_getElem? h1
      rw [List.mem_replicate] at this
      exact nomatch this.2
  · unfold fnD at hm
    cases hr : body (fm0 nn ws) G with
    | rt w2 G2 =>
      rw [hr] at hm
      cases hm
      exact fun φ' H' v x1 g1 rv => q φ' H' v x1 g1 rv
    | nx ρ2 G2 =>
      rw [hr] at hm
      cases hm
      exact fun φ' σ' H' s' => q φ' H' _ s'.ext s'.g (rw_none.mpr rfl)
    | exc x ρ2 G2 => rw [hr] at hm; cases hm
    | bk ρ2 G2 => rw [hr] at hm; cases hm
    | ct ρ2 G2 => rw [hr] at hm; cases hm
    | bad => rw [hr] at hm; cases hm
end
end DL

set_option maxHeartbeats 1000000
/-! LZ: list(zip(a, b)), a and b two lists or two tuples. -/
namespace LZ
open PySem PySem.W PySem.Spec PySem.Calls PyProof.Rows PyProof.V
section
variable {prog : Program} {w : World} {A : Around} {E : Value → Shared → Prop} {s : Shared} {z TI TO T i1 i2 : Addr} {fp1 fp2 : List Addr} {n1 n2 i : Nat} {P1 P2 : Nat → Value → Prop} {St1 St2 : Nat → Heap → Prop} {f : Bool} {oT : Obj}
/-- the next pair while the last one is held elsewhere -/
theorem held_item {Q : Value → Shared → Prop} (S : ZipSep2 z TI TO i1 i2 fp1 fp2) (D1 : Draws prog w A i1 fp1 n1 P1 St1) (D2 : Draws prog w A i2 fp2 n2 P2 St2)
    (hz : IsZipHeld s.heap z TI TO T f) (hT : s.heap.get? T = some oT) (hTI : IsTupOf2 s.heap TI (.ref i1) (.ref i2)) (st1 : St1 i s.heap) (st2 : St2 i s.heap) (hlt1 : i < n1) (hlt2 : i < n2)
    (hQ : ∀ x1 x2 h' tk, P1 i x1 → P2 i x2 → IsZipHeld h' z TI TO T true → St1 (i + 1) h' → St2 (i + 1) h' → IsTupOf2 h' s.heap.objs.size x1 x2 → h'.objs.size = s.heap.objs.size + 1 →
      (∀ c o, c ≠ z → c ≠ i1 → c ≠ i2 → s.heap.get? c = some o → h'.get? c = some o) → Q (.ref s.heap.objs.size) { s with heap := h', toks := tk }) :
    wpAny (model prog w) A (Builtin.«zip.__next__» ⟨[.ref z], []⟩) (fun fin s' => ∃ v, fin = .done (.ret v) ∧ Q v s') E s := by
  obtain ⟨hp, g, d, tk0, os⟩ := s
  show wpAny _ _ (field (.ref z) 2 >>= _) _ _ _
  refine wpAny_bind (wpAny_field hz rfl (x := .bool false) rfl ?_)
  show wpAny _ _ (field (.ref z) 3 >>= _) _ _ _
  refine wpAny_bind (wpAny_field hz rfl (x := .ref TI) rfl ?_)
  refine wpAny_bind (wpAny_seqItems hTI rfl ?_)
  show wpAny _ _ (Builtin.SmallTypes.ownedTupleIsFree (.ref z) >>= _) _ _ _
  refine wpAny_bind (wpAny_tupleHeld_zip hz hT fun g0 hz0 hs0 => ?_)
  replace hs0 : Heap.SameBut z hp g0 := hs0
  simp only [Bool.false_eq_true, if_false]
  refine wpAny_bind ?_
  rw [← Array.forIn_toList]
  simp only [List.forIn_cons, List.forIn_nil]
  refine wpAny_bind (wpAny_bind (wpAny_holding ?_))
  show wpAny _ _ (Builtin.SmallTypes.nextOf (.ref i1) >>= _) _ _ ⟨g0, g, d, tk0, os⟩
  refine wpAny_bind (D1.item i _ _ _ hlt1 (D1.over st1 hs0 S.zf1) fun x1 p1 tk1 hx1 sn1 hp1 => wpAny_pure ?_)
  replace hp1 : Heap.SameBut i1 g0 p1 := hp1
  refine wpAny_pure ?_
  refine wpAny_bind (wpAny_bind (wpAny_holding ?_))
  show wpAny _ _ (Builtin.SmallTypes.nextOf (.ref i2) >>= _) _ _ ⟨p1, g, d, tk1, os⟩
  refine wpAny_bind (D2.item i _ _ _ hlt2 (D2.over (D2.over st2 hs0 S.zf2) hp1 S.sep1_2) fun x2 p2 tk2 hx2 sn2 hp2 => wpAny_pure ?_)
  replace hp2 : Heap.SameBut i2 p1 p2 := hp2
  refine wpAny_pure (wpAny_pure ?_)
  show wpAny _ _ (newTuple [x1, x2] >>= _) _ _ ⟨p2, g, d, tk2, os⟩
  refine wpAny_bind (wpAny_newTuple ?_)
  have hsz : p2.objs.size = hp.objs.size := by rw [hp2.1, hp1.1, hs0.1]
  have hz₃ : IsZipHeld p2 z TI TO T true := hp2.extBut _ _ S.zi2 (hp1.extBut _ _ S.zi1 hz0)
  have hk : ∀ c o, c ≠ z → c ≠ i1 → c ≠ i2 → hp.get? c = some o → p2.get? c = some o := fun c o c1 c2 c3 e => hp2.extBut _ _ c3 (hp1.extBut _ _ c2 (hs0.extBut _ _ c1 e))
  have hj1 : St1 (i + 1) p2 := D1.over sn1 hp2 S.sep2_1
  refine wpAny_pure ⟨_, rfl, ?_⟩
  show Q (.ref p2.objs.size) ⟨p2.push { cls := .type "tuple", data := .seq #[x1, x2] }, g, d, tk2, os⟩
  have hpp : IsTupOf2 (p2.push { cls := .type "tuple", data := .seq #[x1, x2] }) p2.objs.size x1 x2 := Heap.get?_push_size _ rfl
  have hz4 : (p2.push { cls := .type "tuple", data := .seq #[x1, x2] }).objs.size = p2.objs.size + 1 := Heap.size_push ..
  rw [hsz] at hpp hz4 ⊢
  exact hQ x1 x2 _ tk2 hx1 hx2 (Heap.get?_push_of_some _ hz₃) (D1.frame _ _ _ hj1 fun b _ o e => Heap.get?_push_of_some _ e) (D2.frame _ _ _ sn2 fun b _ o e => Heap.get?_push_of_some _ e) hpp hz4 fun c o c1 c2 c3 e => Heap.get?_push_of_some _ (hk c o c1 c2 c3 e)
theorem held_end {Q : Fin → Shared → Prop} (S : ZipSep2 z TI TO i1 i2 fp1 fp2) (D1 : Draws prog w A i1 fp1 n1 P1 St1) (D2 : Draws prog w A i2 fp2 n2 P2 St2)
    (hz : IsZipHeld s.heap z TI TO T f) (hT : s.heap.get? T = some oT) (hTI : IsTupOf2 s.heap TI (.ref i1) (.ref i2)) (st1 : St1 i s.heap) (st2 : St2 i s.heap) (hle1 : i ≤ n1) (hle2 : i ≤ n2) (hend : i = n1 ∨ i = n2)
    (hE : ∀ h' tk e, (∀ c o, c ≠ z → c ≠ i1 → c ≠ i2 → s.heap.get? c = some o → h'.get? c = some o) → (∃ o, h'.get? e = some o ∧ o.cls = .type "StopIteration") → E (.ref e) { s with heap := h', toks := tk }) :
    wpAny (model prog w) A (Builtin.«zip.__next__» ⟨[.ref z], []⟩) Q E s := by
  obtain ⟨hp, g, d, tk0, os⟩ := s
  show wpAny _ _ (field (.ref z) 2 >>= _) _ _ _
  refine wpAny_bind (wpAny_field hz rfl (x := .bool false) rfl ?_)
  show wpAny _ _ (field (.ref z) 3 >>= _) _ _ _
  refine wpAny_bind (wpAny_field hz rfl (x := .ref TI) rfl ?_)
  refine wpAny_bind (wpAny_seqItems hTI rfl ?_)
  show wpAny _ _ (Builtin.SmallTypes.ownedTupleIsFree (.ref z) >>= _) _ _ _
  refine wpAny_bind (wpAny_tupleHeld_zip hz hT fun g0 hz0 hs0 => ?_)
  replace hs0 : Heap.SameBut z hp g0 := hs0
  simp only [Bool.false_eq_true, if_false]
  refine wpAny_bind ?_
  rw [← Array.forIn_toList]
  simp only [List.forIn_cons, List.forIn_nil]
  refine wpAny_bind (wpAny_bind (wpAny_holding ?_))
  show wpAny _ _ (Builtin.SmallTypes.nextOf (.ref i1) >>= _) _ _ ⟨g0, g, d, tk0, os⟩
  by_cases hlt1 : i < n1
  · refine wpAny_bind (D1.item i _ _ _ hlt1 (D1.over st1 hs0 S.zf1) fun x1 p1 tk1 hx1 sn1 hp1 => wpAny_pure ?_)
    replace hp1 : Heap.SameBut i1 g0 p1 := hp1
    refine wpAny_pure ?_
    have hi2 : i = n2 := by omega
    refine wpAny_bind (wpAny_bind (wpAny_holding ?_))
    show wpAny _ _ (Builtin.SmallTypes.nextOf (.ref i2) >>= _) _ _ ⟨p1, g, d, tk1, os⟩
    refine wpAny_bind (D2.done ⟨p1, g, d, tk1, os⟩ _ _ (by rw [← hi2]; exact D2.over (D2.over st2 hs0 S.zf2) hp1 S.sep1_2) fun q e hq he => ?_)
    exact hE q tk1 e (fun c o c1 c2 c3 x => hq _ _ c3 (hp1.extBut _ _ c2 (hs0.extBut _ _ c1 x))) he
  · have hi1 : i = n1 := by omega
    refine wpAny_bind (D1.done ⟨g0, g, d, tk0, os⟩ _ _ (by rw [← hi1]; exact D1.over st1 hs0 S.zf1) fun q e hq he => ?_)
    exact hE q tk0 e (fun c o c1 c2 _ x => hq _ _ c2 (hs0.extBut _ _ c1 x)) he
theorem next_held_item {Q : Option Value → Shared → Prop} (S : ZipSep2 z TI TO i1 i2 fp1 fp2) (D1 : Draws prog w A.in1 i1 fp1 n1 P1 St1) (D2 : Draws prog w A.in1 i2 fp2 n2 P2 St2)
    (hz : IsZipHeld s.heap z TI TO T f) (hT : s.heap.get? T = some oT) (hTI : IsTupOf2 s.heap TI (.ref i1) (.ref i2)) (st1 : St1 i s.heap) (st2 : St2 i s.heap) (hlt1 : i < n1) (hlt2 : i < n2)
    (hQ : ∀ x1 x2 h' tk, P1 i x1 → P2 i x2 → IsZipHeld h' z TI TO T true → St1 (i + 1) h' → St2 (i + 1) h' → IsTupOf2 h' s.heap.objs.size x1 x2 → h'.objs.size = s.heap.objs.size + 1 →
      (∀ c o, c ≠ z → c ≠ i1 → c ≠ i2 → s.heap.get? c = some o → h'.get? c = some o) → Q (some (.ref s.heap.objs.size)) { s with heap := h', toks := tk }) :
    wpAny (model prog w) A (pyNext (.ref z)) Q E s := by
  have hTy : s.TypeIs (.ref z) "zip" := ⟨_, hz, rfl⟩
  unfold pyNext
  exact wpAny_bind (wpAny_attempt (wpAny_callSpecial?_slot (name := Str.ofString "__next__") hTy F.slot_zip_next
    (wpAny_call_entry F.slot_zip_next hTy F.entry_zip_next
      (held_item S D1 D2 hz hT hTI st1 st2 hlt1 hlt2 fun x1 x2 h' tk a1 a2 a3 a4 a5 a6 a7 a8 => wpAny_pure (hQ x1 x2 h' tk a1 a2 a3 a4 a5 a6 a7 a8)) (F.args_zip_next_1 _))))
theorem next_held_end {Q : Option Value → Shared → Prop} (S : ZipSep2 z TI TO i1 i2 fp1 fp2) (D1 : Draws prog w A.in1 i1 fp1 n1 P1 St1) (D2 : Draws prog w A.in1 i2 fp2 n2 P2 St2)
    (hz : IsZipHeld s.heap z TI TO T f) (hT : s.heap.get? T = some oT) (hTI : IsTupOf2 s.heap TI (.ref i1) (.ref i2)) (st1 : St1 i s.heap) (st2 : St2 i s.heap) (hle1 : i ≤ n1) (hle2 : i ≤ n2) (hend : i = n1 ∨ i = n2)
    (hQ : ∀ h' tk, (∀ c o, c ≠ z → c ≠ i1 → c ≠ i2 → s.heap.get? c = some o → h'.get? c = some o) → Q none { s with heap := h', toks := tk }) : wpAny (model prog w) A (pyNext (.ref z)) Q E s := by
  have hTy : s.TypeIs (.ref z) "zip" := ⟨_, hz, rfl⟩
  unfold pyNext
  refine wpAny_bind (wpAny_attempt (wpAny_callSpecial?_slot (name := Str.ofString "__next__") hTy F.slot_zip_next
    (wpAny_call_entry F.slot_zip_next hTy F.entry_zip_next (held_end S D1 D2 hz hT hTI st1 st2 hle1 hle2 hend fun h' tk e hk he => ?_) (F.args_zip_next_1 _))))
  obtain ⟨o, ho, hc⟩ := he
  refine wpAny_bind (wpAny_isInstance (T := "StopIteration") (b := true) ⟨o, ho, hc⟩ isSubtype_stop ?_)
  exact wpAny_pure (hQ _ _ hk)
end

/-- a zip while it is drained into the list at S -/
structure ZSt (z TI TO i1 i2 S : Addr) (St1 St2 : Nat → Heap → Prop) (i : Nat) (h : Heap) : Prop where
  ti : IsTupOf2 h TI (.ref i1) (.ref i2)
  s1 : St1 i h
  s2 : St2 i h
  zz : (IsZip h z TI TO .none ∧ ∃ a b, IsTupOf2 h TO a b) ∨ ∃ T f oT, IsZipHeld h z TI TO T f ∧ h.get? T = some oT ∧ T ≠ z ∧ T ≠ i1 ∧ T ≠ i2 ∧ T ≠ S
section
variable {prog : Program} {w : World} {A : Around} {E : Value → Shared → Prop} {s : Shared} {z TI TO i1 i2 S : Addr} {fp1 fp2 : List Addr} {n1 n2 i : Nat} {P1 P2 : Nat → Value → Prop} {St1 St2 : Nat → Heap → Prop}
theorem z_item {Q : Option Value → Shared → Prop} (Z : ZipSep2 z TI TO i1 i2 fp1 fp2) (D1 : Draws prog w A.in1 i1 fp1 n1 P1 St1) (D2 : Draws prog w A.in1 i2 fp2 n2 P2 St2) (st : ZSt z TI TO i1 i2 S St1 St2 i s.heap) (hS : S < s.heap.objs.size)
    (hlt1 : i < n1) (hlt2 : i < n2)
    (hQ : ∀ x1 x2 h' tk, P1 i x1 → P2 i x2 → ZSt z TI TO i1 i2 S St1 St2 (i + 1) h' → IsTupOf2 h' s.heap.objs.size x1 x2 → h'.objs.size = s.heap.objs.size + 1 →
      (∀ c o, c ≠ z → c ≠ TO → c ≠ i1 → c ≠ i2 → s.heap.get? c = some o → h'.get? c = some o) → Q (some (.ref s.heap.objs.size)) { s with heap := h', toks := tk }) :
    wpAny (model prog w) A (pyNext (.ref z)) Q E s := by
  obtain ⟨hTI, st1, st2, hz⟩ := st
  obtain ⟨o1, e1⟩ := D1.live i _ st1
  obtain ⟨o2, e2⟩ := D2.live i _ st2
  have l1 := Heap.lt_size e1
  have l2 := Heap.lt_size e2
  rcases hz with ⟨hz, a, b, hTO⟩ | ⟨T, f, oT, hz, hT, r1, r2, r3, r4⟩
  · have lz := Heap.lt_size hz
    refine wpAny_pyNext_zipD2_item Z D1 D2 hz hTI hTO st1 st2 hlt1 hlt2 fun x1 x2 h' tk p1 p2 b1 b2 b3 b4 b5 b6 hk => ?_
    exact hQ x1 x2 h' tk p1 p2 ⟨hk _ _ Z.TIz Z.TITO Z.TIi1 Z.TIi2 hTI, b3, b4, .inr ⟨s.heap.objs.size, false, _, b1, b5, Nat.ne_of_gt lz, Nat.ne_of_gt l1, Nat.ne_of_gt l2, Nat.ne_of_gt hS⟩⟩ b5 b6 hk
  · refine next_held_item Z D1 D2 hz hT hTI st1 st2 hlt1 hlt2 fun x1 x2 h' tk p1 p2 b1 b3 b4 b5 b6 hk => ?_
    exact hQ x1 x2 h' tk p1 p2 ⟨hk _ _ Z.TIz Z.TIi1 Z.TIi2 hTI, b3, b4, .inr ⟨T, true, oT, b1, hk _ _ r1 r2 r3 hT, r1, r2, r3, r4⟩⟩ b5 b6 fun c o cz cT c1 c2 e => hk c o cz c1 c2 e
theorem z_done {Q : Option Value → Shared → Prop} (Z : ZipSep2 z TI TO i1 i2 fp1 fp2) (D1 : Draws prog w A.in1 i1 fp1 n1 P1 St1) (D2 : Draws prog w A.in1 i2 fp2 n2 P2 St2) (st : ZSt z TI TO i1 i2 S St1 St2 i s.heap)
    (hle1 : i ≤ n1) (hle2 : i ≤ n2) (hend : i = n1 ∨ i = n2)
    (hQ : ∀ h' tk, (∀ c o, c ≠ z → c ≠ TO → c ≠ i1 → c ≠ i2 → s.heap.get? c = some o → h'.get? c = some o) → Q none { s with heap := h', toks := tk }) : wpAny (model prog w) A (pyNext (.ref z)) Q E s := by
  obtain ⟨hTI, st1, st2, hz⟩ := st
  rcases hz with ⟨hz, a, b, hTO⟩ | ⟨T, f, oT, hz, hT, r1, r2, r3, r4⟩
  · exact wpAny_pyNext_zipD2_end Z D1 D2 hz hTI hTO st1 st2 hle1 hle2 hend hQ
  · exact next_held_end Z D1 D2 hz hT hTI st1 st2 hle1 hle2 hend fun h' tk hk => hQ h' tk fun c o cz cT c1 c2 e => hk c o cz c1 c2 e
theorem ZSt.up {h h' : Heap} (D1 : Draws prog w A i1 fp1 n1 P1 St1) (D2 : Draws prog w A i2 fp2 n2 P2 St2) (st : ZSt z TI TO i1 i2 S St1 St2 i h) (k : ∀ b o, b ≠ S → h.get? b = some o → h'.get? b = some o)
    (h1 : S ∉ fp1) (h2 : S ∉ fp2) (hz : S ≠ z) (hTI : S ≠ TI) (hTO : S ≠ TO) : ZSt z TI TO i1 i2 S St1 St2 i h' := by
  obtain ⟨a1, a2, a3, a4⟩ := st
  refine ⟨k _ _ hTI.symm a1, D1.frame _ _ _ a2 fun b hb o e => k b o (fun q => h1 (q ▸ hb)) e, D2.frame _ _ _ a3 fun b hb o e => k b o (fun q => h2 (q ▸ hb)) e, ?_⟩
  rcases a4 with ⟨a4, a, b, a5⟩ | ⟨T, f, oT, a4, a5, r1, r2, r3, r4⟩
  · exact .inl ⟨k _ _ hz.symm a4, a, b, k _ _ hTO.symm a5⟩
  · exact .inr ⟨T, f, oT, k _ _ hz.symm a4, k _ _ r4 a5, r1, r2, r3, r4⟩
/-- the pairs that were made, in order -/
structure Prs (P1 P2 : Nat → Value → Prop) (lo : Nat) (h : Heap) (as : List Addr) : Prop where
  rise : as.Pairwise (· < ·)
  above : ∀ a ∈ as, lo ≤ a
  pairs : ∀ (j : Nat) (a : Addr), as[j]? = some a → ∃ x y, P1 j x ∧ P2 j y ∧ IsTupOf2 h a x y
theorem Prs.there {lo : Nat} {h : Heap} {as : List Addr} (g : Prs P1 P2 lo h as) {a : Addr} (ha : a ∈ as) : a < h.objs.size := by
  obtain ⟨j, hj⟩ := List.mem_iff_getElem?.mp ha
  obtain ⟨_, _, _, _, e⟩ := g.pairs j a hj
  exact Heap.lt_size e
theorem z_loop {R : Result → Shared → Prop} {lo : Nat} (hh : A.handled = none) (Z : ZipSep2 z TI TO i1 i2 fp1 fp2) (D1 : Draws prog w A.in1.in1 i1 fp1 n1 P1 St1) (D2 : Draws prog w A.in1.in1 i2 fp2 n2 P2 St2)
    (h1 : S ∉ fp1) (h2 : S ∉ fp2) (hz : S ≠ z) (hTI : S ≠ TI) (hTO : S ≠ TO) (hi1 : S ≠ i1) (hi2 : S ≠ i2) (lS : S < lo) (lz : z < lo) (lT : TO < lo) (l1 : i1 < lo) (l2 : i2 < lo) (hn : min n1 n2 ≤ sizeLine) (res : Value) {h₁ : Heap}
    (hR : ∀ h' tk acc c as, (∀ b o, b ≠ S → b ≠ z → b ≠ TO → b ≠ i1 → b ≠ i2 → h₁.get? b = some o → h'.get? b = some o) → h'.get? S = some { cls := .type "list", dict := none, data := .seq acc c, slots := #[] } → as.length = min n1 n2 → Prs P1 P2 lo h' as →
      acc.toList = as.map Value.ref → R (.ok (.ret res)) { s with heap := h', toks := tk }) :
    ∀ (k i : Nat) (h : Heap) (tk c : Nat) (acc : Array Value) (as : List Addr), min n1 n2 - i = k → i ≤ min n1 n2 → ZSt z TI TO i1 i2 S St1 St2 i h → (∀ b o, b ≠ S → b ≠ z → b ≠ TO → b ≠ i1 → b ≠ i2 → h₁.get? b = some o → h.get? b = some o) →
      h.get? S = some { cls := .type "list", dict := none, data := .seq acc c, slots := #[] } → acc.toList = as.map Value.ref → as.length = i → Prs P1 P2 lo h as → lo ≤ h.objs.size →
      codeAny (model prog w) A (.builtin "list.extend.loop" ⟨[.ref S, .ref z, res], []⟩) R { s with heap := h, toks := tk } := by
  intro k
  induction k with
  | zero =>
    intro i h tk c acc as hk hi hst hkeep hS hacc hal hG hIs
    have hin : i = min n1 n2 := by omega
    refine codeAny_builtin PySem.F.entry_extend_loop ?_
    rw [Around.under_plainId PySem.F.plain_extend_loop _]
    show wpAny _ A.in1 (pyNext (.ref z) >>= _) _ _ _
    refine wpAny_bind (z_done (s := { s with heap := h, toks := tk }) (A := A.in1) Z D1 D2 hst (by omega) (by omega) (by omega) fun h' tk' he => ?_)
    refine wpAny_pure (hR h' tk' acc c as (fun b o q1 q2 q3 q4 q5 e => he b o q2 q3 q4 q5 (hkeep b o q1 q2 q3 q4 q5 e)) (he S _ hz hTO hi1 hi2 hS) (by omega) ⟨hG.rise, hG.above, fun j a hj => ?_⟩ hacc)
    obtain ⟨x, y, p1, p2, e3⟩ := hG.pairs j a hj
    have la := hG.above a (List.mem_of_getElem? hj)
    have ne : ∀ c : Nat, c < lo → a ≠ c := fun c q => Nat.ne_of_gt (Nat.lt_of_lt_of_le q la)
    exact ⟨x, y, p1, p2, he a _ (ne _ lz) (ne _ lT) (ne _ l1) (ne _ l2) e3⟩
  | succ k ih =>
    intro i h tk c acc as hk hi hst hkeep hS hacc hal hG hIs
    have hlt : i < min n1 n2 := by omega
    have hsz : acc.size = i := by rw [← Array.length_toList, hacc, List.length_map, hal]
    refine codeAny_builtin PySem.F.entry_extend_loop ?_
    rw [Around.under_plainId PySem.F.plain_extend_loop _]
    show wpAny _ A.in1 (pyNext (.ref z) >>= _) _ _ _
    refine wpAny_bind (z_item (s := { s with heap := h, toks := tk }) (S := S) Z D1 D2 hst (Heap.lt_size hS) (by omega) (by omega) fun x1 x2 h' tk' p1 p2 hst' ht hzz hkp => ?_)
    dsimp only at ht hzz hkp ⊢
    have hS' := hkp S _ hz hTO hi1 hi2 hS
    have up : ∀ b o, b ≠ S → h'.get? b = some o → (h'.update S (Obj.mapSeq (·.push (Value.ref h.objs.size)))).get? b = some o := fun b o hb e => (Heap.get?_update_other _ _ (Ne.symm hb)).trans e
    have hSl : S < h.objs.size := Heap.lt_size hS
    have hgh : (h'.update S (Obj.mapSeq (·.push (Value.ref h.objs.size)))).get? h.objs.size = _ := up _ _ (Nat.ne_of_gt hSl) ht
    show wpAny _ A.in1 (updateSeq S (·.push (Value.ref h.objs.size)) >>= _) _ _ _
    refine wpAny_bind ?_
    refine wpAny_updateSeq hS' rfl (wpAny_pure ⟨plainId_quiet PySem.F.plain_extend_loop _, ih (i + 1) _ tk' _ (acc.push (Value.ref h.objs.size)) (as ++ [h.objs.size]) (by omega) hlt (hst'.up D1 D2 up h1 h2 hz hTI hTO)
      (fun b o q1 q2 q3 q4 q5 e => up b o q1 (hkp b o q2 q3 q4 q5 (hkeep b o q1 q2 q3 q4 q5 e))) (Heap.get?_update_self _ hS' rfl) (by rw [Array.toList_push, hacc, List.map_append]; rfl) (by rw [List.length_append, hal]; rfl) ⟨?_, ?_, ?_⟩ ?_⟩) (by rw [hsz]; omega) (by show (acc.push (Value.ref h.objs.size)).size ≤ sizeLine + 1; rw [Array.size_push, hsz]; omega)
    · refine List.pairwise_append.mpr ⟨hG.rise, List.pairwise_singleton _ _, fun a ha b hb => ?_⟩
      rw [List.mem_singleton.mp hb]
      exact hG.there ha
    · intro a ha
      rcases List.mem_append.mp ha with ha | ha
      · exact hG.above a ha
      · rw [List.mem_singleton.mp ha]; exact hIs
    · intro j b hj
      rcases Nat.lt_trichotomy j as.length with q | q | q
      · rw [List.getElem?_append_left q] at hj
        obtain ⟨x, y, r1, r2, e3⟩ := hG.pairs j b hj
        have hb := hG.above b (List.mem_of_getElem? hj)
        have ne : ∀ c : Nat, c < lo → b ≠ c := fun c q => Nat.ne_of_gt (Nat.lt_of_lt_of_le q hb)
        exact ⟨x, y, r1, r2, up b _ (ne _ lS) (hkp b _ (ne _ lz) (ne _ lT) (ne _ l1) (ne _ l2) e3)⟩
      · subst q
        have hb : h.objs.size = b := by simpa using hj
        subst hb
        subst hal
        exact ⟨x1, x2, p1, p2, hgh⟩
      · have hnone : (as ++ [h.objs.size])[j]? = none := List.getElem?_eq_none (by rw [List.length_append, List.length_singleton]; omega)
        rw [hnone] at hj; cases hj
    · exact Nat.le_trans hIs (Nat.le_of_lt (Heap.lt_size hgh))
end
theorem zip_no_len : typeLookup (.type "zip") (Str.ofString "__len__") = pure none := am_miss_of_fast (by decide +kernel)
theorem zip_no_hint : typeLookup (.type "zip") (Str.ofString "__length_hint__") = pure none := am_miss_of_fast (by decide +kernel)
section
variable {prog : Program} {w : World} {A : Around} {E : Value → Shared → Prop} {s : Shared} {z TI TO i1 i2 S : Addr} {fp1 fp2 : List Addr} {n1 n2 : Nat} {P1 P2 : Nat → Value → Prop} {St1 St2 : Nat → Heap → Prop}
theorem z_call {Q : Value → Shared → Prop} (hh : A.handled = none) (Z : ZipSep2 z TI TO i1 i2 fp1 fp2) (D1 : Draws prog w A.in1.in1.in1 i1 fp1 n1 P1 St1) (D2 : Draws prog w A.in1.in1.in1 i2 fp2 n2 P2 St2) (hn : min n1 n2 ≤ sizeLine)
    (hz : IsZip s.heap z TI TO .none) (hTI : IsTupOf2 s.heap TI (.ref i1) (.ref i2)) (hTO : ∃ a b, IsTupOf2 s.heap TO a b) (st1 : St1 0 s.heap) (st2 : St2 0 s.heap) (hf1 : ∀ b ∈ fp1, b < s.heap.objs.size) (hf2 : ∀ b ∈ fp2, b < s.heap.objs.size)
    (hQ : ∀ h' tk acc c as, (∀ b o, b ≠ z → b ≠ TO → b ≠ i1 → b ≠ i2 → s.heap.get? b = some o → h'.get? b = some o) → h'.get? s.heap.objs.size = some { cls := .type "list", dict := none, data := .seq acc c, slots := #[] } → as.length = min n1 n2 → Prs P1 P2 (s.heap.objs.size + 1) h' as →
      acc.toList = as.map Value.ref → Q (.ref s.heap.objs.size) { s with heap := h', toks := tk }) :
    wpAny (model prog w) A (call (.type "list") [.ref z]) Q E s := by
  refine callType_codes (Q₁ := fun obj s₁ => obj = .ref s.heap.objs.size ∧ s₁ = { s with heap := s.heap.push { cls := .type "list", data := .seq #[] } }) PySem.F.called_list (PySem.F.typeCall_list_1 _) PySem.F.entry_list_init
    (code_list_new _ ⟨rfl, rfl⟩) fun obj s₁ h₁ => ?_
  obtain ⟨rfl, rfl⟩ := h₁
  have lz : z < s.heap.objs.size := Heap.lt_size hz
  have lTI : TI < s.heap.objs.size := Heap.lt_size hTI
  obtain ⟨a0, b0, hTO⟩ := hTO
  have lTO : TO < s.heap.objs.size := Heap.lt_size hTO
  have li1 := hf1 _ Z.mem1
  have li2 := hf2 _ Z.mem2
  have nf1 : s.heap.objs.size ∉ fp1 := fun q => Nat.lt_irrefl _ (hf1 _ q)
  have nf2 : s.heap.objs.size ∉ fp2 := fun q => Nat.lt_irrefl _ (hf2 _ q)
  have hS : (s.heap.push { cls := .type "list", data := .seq #[] }).get? s.heap.objs.size = some { cls := .type "list", data := .seq #[] } := Heap.get?_push_size _ rfl
  have zs0 : ZSt z TI TO i1 i2 s.heap.objs.size St1 St2 0 s.heap := ⟨hTI, st1, st2, .inl ⟨hz, a0, b0, hTO⟩⟩
  refine ⟨⟨_, hS, rfl⟩, PySem.F.args_list_init_2 _ _, ?_⟩
  show wpAny _ A.in1.in1 (do let old ← Builtin.List.listItems (.ref s.heap.objs.size); Builtin.List.listUpdate (.ref s.heap.objs.size) (fun _ => #[]); letGo old.toList.reverse; Builtin.List.listExtendWith (.ref s.heap.objs.size) (.ref z) .none) _ _ _
  refine wpAny_bind ?_
  unfold Builtin.List.listItems
  refine wpAny_bind (wpAny_seqItems hS rfl (wpAny_pure ?_))
  show wpAny _ _ (updateSeq s.heap.objs.size (fun _ => #[]) >>= fun _ => letGo (#[] : Array Value).toList.reverse >>= fun _ => Builtin.List.listExtendWith (.ref s.heap.objs.size) (.ref z) .none) _ _ _
  refine wpAny_bind (wpAny_updateSeq hS rfl ?_)
  have hS₂ := Heap.get?_update_self (Obj.mapSeq (fun _ => (#[] : Array Value))) hS rfl
  have up : ∀ (h : Heap) (fn : Obj → Obj), (∀ b o, b ≠ s.heap.objs.size → s.heap.get? b = some o → h.get? b = some o) → ∀ b o, b ≠ s.heap.objs.size → s.heap.get? b = some o → (h.update s.heap.objs.size fn).get? b = some o :=
    fun h fn q b o hb e => (Heap.get?_update_other _ _ (Ne.symm hb)).trans (q b o hb e)
  have k1 : ∀ b o, b ≠ s.heap.objs.size → s.heap.get? b = some o → (s.heap.push { cls := .type "list", data := .seq #[] }).get? b = some o := fun b o _ e => Heap.get?_push_of_some _ e
  have k2 := up _ (Obj.mapSeq (fun _ => (#[] : Array Value))) k1
  refine wpAny_bind (wpAny_letGo ?_)
  unfold Builtin.List.listExtendWith
  have ty2 : ∀ {h : Heap} {tk : Nat}, (∀ b o, b ≠ s.heap.objs.size → s.heap.get? b = some o → h.get? b = some o) → Shared.TypeIs { s with heap := h, toks := tk } (.ref z) "zip" := fun q => ⟨_, q _ _ (Nat.ne_of_lt lz) hz, rfl⟩
  refine wpAny_bind (wpAny_typeOf (ty2 k2) ?_)
  have q1 : Builtin.List.listSameRef (.ref s.heap.objs.size) (.ref z) = false := by simp [Builtin.List.listSameRef, Nat.ne_of_gt lz]
  have q2 : (Value.type "zip" == Value.type "list") = false := by decide
  have q3 : (Value.type "zip" == Value.type "tuple") = false := by decide
  simp only [q1, q2, q3, Bool.or_false, Bool.false_eq_true, if_false]
  refine wpAny_bind (wpAny_pyIter_zip (s := { s with heap := _ }) (k2 _ _ (Nat.ne_of_lt lz) hz) ?_)
  refine wpAny_bind (wpAny_holding ?_)
  unfold Builtin.List.listLengthHint
  refine wpAny_bind (wpAny_specialOf (ty2 k2) zip_no_len ?_)
  show wpAny _ A.in1.in1 (specialOf (Value.ref z) (Str.ofString "__length_hint__") >>= _) _ _ _
  refine wpAny_bind (wpAny_specialOf (ty2 k2) zip_no_hint ?_)
  refine wpAny_pure ?_
  show wpAny _ A.in1.in1 (rule "list.extend.makes-room" >>= fun _ => Builtin.List.listTouch (.ref s.heap.objs.size) >>= fun _ =>
    again (.builtin "list.extend.loop" ⟨[.ref s.heap.objs.size, .ref z, .none], []⟩)) _ _ _
  refine wpAny_bind (wpAny_rule ?_)
  refine wpAny_bind ?_
  show wpAny _ A.in1.in1 (updateSeq s.heap.objs.size (·.push .none) >>= fun _ => updateSeq s.heap.objs.size (·.pop)) _ _ _
  refine wpAny_bind (wpAny_updateSeq hS₂ rfl ?_)
  have hS₃ := Heap.get?_update_self (Obj.mapSeq (·.push Value.none)) hS₂ rfl
  refine wpAny_updateSeq (hz := by seq_fits) hS₃ rfl ?_
  have hS₄ := Heap.get?_update_self (Obj.mapSeq (·.pop)) hS₃ rfl
  have k4 := up _ (Obj.mapSeq (·.pop)) (up _ (Obj.mapSeq (·.push Value.none)) k2)
  have hle := Nat.le_of_eq (Nat.sub_zero (min n1 n2))
  refine wpAny_pure ⟨plainId_quiet PySem.F.plain_extend_loop _, ?_⟩
  refine z_loop (A := A.in1) (s := s) (h₁ := s.heap) (lo := s.heap.objs.size + 1) hh Z D1 D2 nf1 nf2 (Nat.ne_of_gt lz) (Nat.ne_of_gt lTI) (Nat.ne_of_gt lTO) (Nat.ne_of_gt li1) (Nat.ne_of_gt li2) (Nat.lt_succ_self _) (Nat.lt_succ_of_lt lz) (Nat.lt_succ_of_lt lTO) (Nat.lt_succ_of_lt li1) (Nat.lt_succ_of_lt li2) hn .none
    (fun h' tk acc c as hk hS' hl hG hacc => ⟨rfl, hQ h' tk acc c as (fun b o r2 r3 r4 r5 e => hk b o (Nat.ne_of_lt (Heap.lt_size e)) r2 r3 r4 r5 e) hS' hl hG hacc⟩)
    (min n1 n2) 0 _ _ _ #[] [] (Nat.sub_zero _) (Nat.zero_le _) (zs0.up D1 D2 k4 nf1 nf2 (Nat.ne_of_gt lz) (Nat.ne_of_gt lTI) (Nat.ne_of_gt lTO)) (fun b o r1 _ _ _ _ e => k4 b o r1 e) hS₄ rfl rfl
    ⟨List.Pairwise.nil, (fun _ ha => nomatch ha), (fun j a hj => by simp at hj)⟩ (Heap.lt_size hS₄)
end

/-! ### over HandS -/
open L2
/-- H, and what is new -/
def ovl (H : Hp) (nw : Addr → Option HO) : Hp := fun b => match nw b with
  | some u => some u
  | none => H b
theorem Inv.many {X : Cx} {pins : List (Addr × Obj)} {σ : L2.St} {H : Hp} {s : Shared} {h' : Heap} {nw : Addr → Option HO} {t' : Nat} (I : Inv X pins σ H s) (k : ∀ b u, s.heap.get? b = some u → h'.get? b = some u) (hp : ∀ b u, nw b = some u → s.heap.objs.size ≤ b)
    (new : ∀ b u, nw b = some u → ObjOk X.prog X.w (ovl H nw) h' b u) : Inv X pins σ (ovl H nw) { s with heap := h', toks := t' } := by
  have old : ∀ b, b < s.heap.objs.size → ovl H nw b = H b := fun b hb => by
    unfold ovl
    cases e : nw b with
    | none => rfl
    | some u => exact absurd hb (Nat.not_lt.mpr (hp b u e))
  have tr : ∀ b u, H b = some u → ovl H nw b = some u := fun b u e => by rw [old b (I.hok.lt e)]; exact e
  refine I.un ⟨fun b o q _ _ _ => k b o q, fun b o q _ _ _ => ⟨o.slots, k b o q⟩, fun b o q n _ => by rw [old b (Heap.lt_size q)]; exact n, fun b o q _ => ⟨o, k b o q⟩, fun b xs q => tr _ _ q, fun b o u q => tr _ _ q, fun b ps q => ⟨#[], by rw [tr _ _ q]; simp⟩⟩ fun b u e => ?_
  cases en : nw b with
  | some u' =>
    have e2 : ovl H nw b = some u' := by unfold ovl; rw [en]
    rw [e2] at e
    cases e
    exact new b _ en
  | none =>
    have e2 : ovl H nw b = H b := by unfold ovl; rw [en]
    rw [e2] at e
    exact (I.hok b u e).stay (fun c v _ q => k c v q) (fun c q => tr _ _ q) fun c xs q => tr _ _ q
/-- list(zip(a, b)): both lists or both tuples -/
def tLZ (K : PySem.W.Frag) (ta : TA) : TE := fun σ H Q => ta σ H fun vs H1 => ∃ a b xs ys, vs = [.ref a, .ref b] ∧ ((SqL K H1 a xs ∧ SqL K H1 b ys) ∨ (SqT K H1 a xs ∧ SqT K H1 b ys)) ∧
  ∀ (H2 : Hp) (p : Addr) (as : List Addr), (∀ b o, H1 b = some o → H2 b = some o) → (∀ b, H1 b = none → H2 b ≠ none → b = p ∨ b ∈ as) → H1 p = none → H2 p = some (.lst (as.map V.ref)) → as.length = min xs.length ys.length →
    (∀ (j : Nat) c, as[j]? = some c → H1 c = none ∧ ∃ x y, xs[j]? = some x ∧ ys[j]? = some y ∧ H2 c = some (.tup [x, y])) → Q (.ref p) H2
section
variable {X : Cx} {a b : Expr} {ta : TA} {p p2 pos pos2 : Pos}
/-- behind zip(..): the new zip is drained -/
theorem lz_end {pins : List (Addr × Obj)} {σ : L2.St} {H : Hp} {s : Shared} {Q : VK} {xs ys : List V} {its its2 : List Value} {n1 n2 : Nat} {P1 P2 : Nat → Value → Prop} (I : Inv X pins σ H s) (rv : Vals xs its) (rv2 : Vals ys its2)
    (hp1 : ∀ j v, P1 j v → its[j]? = some v) (hp2 : ∀ j v, P2 j v → its2[j]? = some v) (hn1 : n1 = its.length) (hn2 : n2 = its2.length) (hsz : min n1 n2 ≤ sizeLine)
    (hQ : ∀ (H2 : Hp) (p : Addr) (as : List Addr), (∀ b o, H b = some o → H2 b = some o) → (∀ b, H b = none → H2 b ≠ none → b = p ∨ b ∈ as) → H p = none → H2 p = some (.lst (as.map V.ref)) → as.length = min xs.length ys.length →
      (∀ (j : Nat) c, as[j]? = some c → H c = none ∧ ∃ x y, xs[j]? = some x ∧ ys[j]? = some y ∧ H2 c = some (.tup [x, y])) → Q (.ref p) H2)
    {h' : Heap} {tk : Nat} {S : Addr} {acc : Array Value} {c : Nat} {as : List Addr} (lS : s.heap.objs.size ≤ S) (hk : ∀ b o, s.heap.get? b = some o → h'.get? b = some o) (hS : h'.get? S = some { cls := .type "list", dict := none, data := .seq acc c, slots := #[] })
    (hl : as.length = min n1 n2) (hG : Prs P1 P2 (S + 1) h' as) (hacc : acc.toList = as.map Value.ref) : EP X pins σ Q (.ref S) { s with heap := h', toks := tk } := by
  have hex : ∀ b ∈ as, ∃ u : HO, (∃ (j : Nat) (x y : V), as[j]? = some b ∧ xs[j]? = some x ∧ ys[j]? = some y ∧ u = .tup [x, y]) := fun b hb => by
    obtain ⟨j, hj⟩ := List.mem_iff_getElem?.mp hb
    have hjl := (List.getElem?_eq_some_iff.mp hj).1
    have l1 := rv.length
    have l2 := rv2.length
    have e1 : xs[j]? = some xs[j] := List.getElem?_eq_getElem (by omega)
    have e2 : ys[j]? = some ys[j] := List.getElem?_eq_getElem (by omega)
    exact ⟨_, j, _, _, hj, e1, e2, rfl⟩
  have uniq : ∀ (i j : Nat) (b : Addr), as[i]? = some b → as[j]? = some b → i = j := fun i j b h1 h2 => by
    have nd : as.Nodup := hG.rise.imp fun h => Nat.ne_of_lt h
    obtain ⟨q1, e1⟩ := List.getElem?_eq_some_iff.mp h1
    obtain ⟨q2, e2⟩ := List.getElem?_eq_some_iff.mp h2
    exact (List.getElem_inj nd).mp (e1.trans e2.symm)
  classical
  let nw : Addr → Option HO := fun b => if b = S then some (.lst (as.map V.ref)) else if h : b ∈ as then some (Classical.choose (hex b h)) else none
  have nS : S ∉ as := fun q => Nat.lt_irrefl _ (hG.above S q)
  have nwS : nw S = some (.lst (as.map V.ref)) := if_pos rfl
  have nwA : ∀ (j : Nat) b x y, as[j]? = some b → xs[j]? = some x → ys[j]? = some y → nw b = some (.tup [x, y]) := fun j b x y hj hx hy => by
    have hb := List.mem_of_getElem? hj
    have hne : b ≠ S := fun q => nS (q ▸ hb)
    show (if b = S then _ else _) = _
    rw [if_neg hne, dif_pos hb]
    obtain ⟨j', x', y', q1, q2, q3, q4⟩ := Classical.choose_spec (hex b hb)
    rw [q4]
    have := uniq j j' b hj q1
    subst this
    rw [hx] at q2; rw [hy] at q3
    cases q2; cases q3
    rfl
  have nwI : ∀ b u, nw b = some u → b = S ∨ b ∈ as := fun b u e => by
    by_cases h1 : b = S
    · exact .inl h1
    · by_cases h2 : b ∈ as
      · exact .inr h2
      · have e' : nw b = none := by
          show (if b = S then _ else _) = _
          rw [if_neg h1, dif_neg h2]
        rw [e'] at e; cases e
  have above : ∀ b u, nw b = some u → s.heap.objs.size ≤ b := fun b u e => by
    rcases nwI b u e with rfl | h
    · exact lS
    · exact Nat.le_trans lS (Nat.le_of_lt (hG.above b h))
  have lenV : (as.map V.ref).length ≤ sizeLine := by rw [List.length_map, hl]; exact hsz
  have I2 : Inv X pins σ (ovl H nw) { s with heap := h', toks := tk } := by
    refine LZ.Inv.many I hk above fun b u e => ?_
    rcases nwI b u e with rfl | h
    · rw [nwS] at e
      cases e
      refine ⟨lenV, as.map Value.ref, c, ?_, ?_⟩
      · clear hex uniq nw nS nwS nwA nwI above lenV hl hG hacc
        induction as with
        | nil => exact .nil
        | cons d ds ih => exact .cons rfl ih
      · rw [hS, ← hacc]
    · obtain ⟨_, j, x, y, hj, hx, hy, _⟩ := hex b h
      rw [nwA j b x y hj hx hy] at e
      cases e
      obtain ⟨u1, u2, q1, q2, q3⟩ := hG.pairs j b hj
      obtain ⟨w1, hw1, r1⟩ := rv.get hx
      obtain ⟨w2, hw2, r2⟩ := rv2.get hy
      rw [hp1 j u1 q1] at hw1
      rw [hp2 j u2 q2] at hw2
      cases hw1; cases hw2
      exact ⟨by show 2 ≤ sizeLine; decide, [u1, u2], .cons r1 (.cons r2 .nil), ⟨_, q3, rfl, _, rfl⟩⟩
  have up : ∀ b o, H b = some o → ovl H nw b = some o := fun b o e => by
    unfold ovl
    cases en : nw b with
    | none => exact e
    | some u => exact absurd (I.hok.lt e) (Nat.not_lt.mpr (above b u en))
  have at_ : ∀ b u, nw b = some u → ovl H nw b = some u := fun b u e => by unfold ovl; rw [e]
  refine ⟨.ref S, _, I2, rfl, hQ _ S as up (fun b hb hb2 => ?_) (I.hok.fresh lS) (at_ _ _ nwS) ?_ fun j d hj => ?_⟩
  · cases en : nw b with
    | none =>
      unfold ovl at hb2
      rw [en] at hb2
      exact absurd hb hb2
    | some u => exact nwI b u en
  · rw [hl, hn1, hn2, rv.length, rv2.length]
  · obtain ⟨_, j', x, y, hj', hx, hy, _⟩ := hex d (List.mem_of_getElem? hj)
    have := uniq j j' d hj hj'
    subst this
    exact ⟨I.hok.fresh (Nat.le_trans lS (Nat.le_of_lt (hG.above d (List.mem_of_getElem? hj)))), x, y, hx, hy, at_ _ _ (nwA j d x y hj hx hy)⟩
theorem sep_of {z TI TO i1 i2 l1 l2 : Addr} (D : ZipApart z TI TO i1 i2 l1 l2) : ZipSep2 z TI TO i1 i2 [i1, l1] [i2, l2] where
  TIz := D.TIz
  TOz := D.TOz
  TITO := D.TITO
  TIi1 := D.TIi1
  mem1 := by simp
  zf1 := by simp [D.i1z.symm, D.l1z.symm]
  Tf1 := by simp [D.TOi1, D.l1TO.symm]
  TIi2 := D.TIi2
  mem2 := by simp
  zf2 := by simp [D.i2z.symm, D.l2z.symm]
  Tf2 := by simp [D.TOi2, D.l2TO.symm]
  sep1_2 := by simp [D.i12, D.l2i1.symm]
  sep2_1 := by simp [D.i12.symm, D.l1i2.symm]
theorem pe_lz (hc : X.calm = true) (hg : Gl X "list") (hm : X.mg "list" = none) (hgz : Gl X "zip") (hmz : X.mg "zip" = none) (ha : PA X [a, b] ta)
    (hs : starEach [a, b] X.env = (false, eval a X.env) :: starEach [b] X.env := by rfl) (hpl : (backTo pos2 (starEach [b] X.env)).any (·.1) = false := by rfl)
    (hs1 : starEach [.Call (.Name "zip" p2) [a, b] [] pos2] X.env = (false, eval (.Call (.Name "zip" p2) [a, b] [] pos2) X.env) :: starEach [] X.env := by rfl) (hp1 : (backTo pos (starEach [] X.env)).any (·.1) = false := by rfl) :
    PE X (.Call (.Name "list" p) [.Call (.Name "zip" p2) [a, b] [] pos2] [] pos) (tLZ X.K ta) := by
  refine ⟨fun pins s σ H Q I h => ?_⟩
  refine wpAny_Call_Name_kw (ld_blt (u := .type "list") I hg hm (by rfl) ?_ (by decide) (by decide))
  refine PyProof.Rows.callWith_type1 ?_ hs1 hp1
  rw [hs1]
  show wpAny _ _ (spliced ((false, eval (.Call (.Name "zip" p2) [a, b] [] pos2) X.env) :: backTo pos (starEach [] X.env))) _ _ s
  refine Calls.spliced_cons ?_
  refine wpAny_Call_Name_kw (ld_blt (u := .type "zip") I hgz hmz PyProof.Rows.boot_zip ?_ (by decide) (by decide))
  refine PyProof.Rows.callWith_type1 (thn (ha.run pos2 pins s σ H _ I h) fun us s1 ⟨vs, H1, I1, r1, q1⟩ => ?_) hs hpl
  obtain ⟨l1, l2, xs, ys, ex, q1⟩ := q1
  subst ex
  have hh : X.A.handled = none := I1.ok.hd hc
  cases r1 with
  | cons r rr =>
    cases rr with
    | cons r' rr =>
      cases rr
      cases r
      cases r'
      obtain ⟨q1, q⟩ := q1
      rcases q1 with ⟨hqx, hqy⟩ | ⟨hqx, hqy⟩
      · obtain ⟨its, rv, pl1, z1⟩ := I1.list hqx
        obtain ⟨its2, rv2, pl2, z2⟩ := I1.list hqy
        refine call_zip_2 pl1.isList pl2.isList fun h' hz hTI hTO h1 h2 hsz hk => ?_
        show wpAny _ _ (spliced (backTo pos (starEach [] X.env))) _ _ _
        refine Calls.spliced_nil ?_
        have lt1 := pl1.lt
        have lt2 := pl2.lt
        have D := PySem.W.ktu_apart s1.heap.objs.size l1 l2 lt1 lt2
        have li1 : h'.IsList l1 its.toArray := pl1.isList.at fun o e => hk _ o e
        have li2 : h'.IsList l2 its2.toArray := pl2.isList.at fun o e => hk _ o e
        have hle : min its.toArray.size its2.toArray.size ≤ sizeLine := by
          rw [List.size_toArray, List.size_toArray, ← rv.length]
          exact Nat.le_trans (Nat.min_le_left _ _) z1
        refine z_call (s := { s1 with heap := h' }) hh (sep_of D) (Draws.list (A := X.A.in1.in1.in1) hh _ l1 D.l1i1 its.toArray) (Draws.list (A := X.A.in1.in1.in1) hh _ l2 D.l2i2 its2.toArray) hle hz hTI ⟨_, _, hTO⟩ ⟨h1, li1⟩ ⟨h2, li2⟩ ?_ ?_ fun h2 tk acc c as hk2 hS hl hG hacc => ?_
        · intro b hb
          simp at hb
          rcases hb with rfl | rfl <;> (show _ < h'.objs.size) <;> rw [hsz] <;> first | omega | exact Nat.lt_of_lt_of_le lt1 (Nat.le_add_right _ _) | exact Nat.lt_of_lt_of_le lt2 (Nat.le_add_right _ _)
        · intro b hb
          simp at hb
          rcases hb with rfl | rfl <;> (show _ < h'.objs.size) <;> rw [hsz] <;> first | omega | exact Nat.lt_of_lt_of_le lt1 (Nat.le_add_right _ _) | exact Nat.lt_of_lt_of_le lt2 (Nat.le_add_right _ _)
        · refine lz_end (s := s1) (n1 := its.toArray.size) (n2 := its2.toArray.size) I1 rv rv2 (fun j v e => by simpa using e) (fun j v e => by simpa using e) (by simp) (by simp) hle q (by show _ ≤ h'.objs.size; rw [hsz]; omega) (fun b o e => ?_) hS hl hG hacc
          have hb : (b : Nat) < s1.heap.objs.size := Heap.lt_size e
          have ne : ∀ k : Nat, b ≠ s1.heap.objs.size + k := fun k => Nat.ne_of_lt (Nat.lt_of_lt_of_le hb (Nat.le_add_right _ k))
          exact hk2 b o (ne 4) (ne 3) (ne 0) (ne 1) (hk b o e)
      · obtain ⟨its, rv, pl1, z1⟩ := I1.tuple hqx
        obtain ⟨its2, rv2, pl2, z2⟩ := I1.tuple hqy
        obtain ⟨o1, ho1, _⟩ := id pl1
        obtain ⟨o2, ho2, _⟩ := id pl2
        refine RZ.call_zipT (show s1.heap.IsTuple l1 its.toArray from pl1) (show s1.heap.IsTuple l2 its2.toArray from pl2) fun h' hz hTI hTO h1 h2 hsz hk => ?_
        show wpAny _ _ (spliced (backTo pos (starEach [] X.env))) _ _ _
        refine Calls.spliced_nil ?_
        have lt1 := Heap.lt_size ho1
        have lt2 := Heap.lt_size ho2
        have D := PySem.W.ktu_apart s1.heap.objs.size l1 l2 lt1 lt2
        have li1 : h'.IsTuple l1 its.toArray := Heap.IsTuple.at (show s1.heap.IsTuple l1 its.toArray from pl1) fun o e => hk _ o e
        have li2 : h'.IsTuple l2 its2.toArray := Heap.IsTuple.at (show s1.heap.IsTuple l2 its2.toArray from pl2) fun o e => hk _ o e
        have hle : min its.toArray.size its2.toArray.size ≤ sizeLine := by
          rw [List.size_toArray, List.size_toArray, ← rv.length]
          exact Nat.le_trans (Nat.min_le_left _ _) z1
        refine z_call (s := { s1 with heap := h' }) hh (sep_of D) (Draws.tuple (A := X.A.in1.in1.in1) hh _ l1 D.l1i1 its.toArray) (Draws.tuple (A := X.A.in1.in1.in1) hh _ l2 D.l2i2 its2.toArray) hle hz hTI ⟨_, _, hTO⟩ ⟨h1, li1⟩ ⟨h2, li2⟩ ?_ ?_ fun h2 tk acc c as hk2 hS hl hG hacc => ?_
        · intro b hb
          simp at hb
          rcases hb with rfl | rfl <;> (show _ < h'.objs.size) <;> rw [hsz] <;> first | omega | exact Nat.lt_of_lt_of_le lt1 (Nat.le_add_right _ _) | exact Nat.lt_of_lt_of_le lt2 (Nat.le_add_right _ _)
        · intro b hb
          simp at hb
          rcases hb with rfl | rfl <;> (show _ < h'.objs.size) <;> rw [hsz] <;> first | omega | exact Nat.lt_of_lt_of_le lt1 (Nat.le_add_right _ _) | exact Nat.lt_of_lt_of_le lt2 (Nat.le_add_right _ _)
        · refine lz_end (s := s1) (n1 := its.toArray.size) (n2 := its2.toArray.size) I1 rv rv2 (fun j v e => by simpa using e) (fun j v e => by simpa using e) (by simp) (by simp) hle q (by show _ ≤ h'.objs.size; rw [hsz]; omega) (fun b o e => ?_) hS hl hG hacc
          have hb : (b : Nat) < s1.heap.objs.size := Heap.lt_size e
          have ne : ∀ k : Nat, b ≠ s1.heap.objs.size + k := fun k => Nat.ne_of_lt (Nat.lt_of_lt_of_le hb (Nat.le_add_right _ k))
          exact hk2 b o (ne 4) (ne 3) (ne 0) (ne 1) (hk b o e)
end
end LZ

set_option maxHeartbeats 1000000
/-! DL7: zip. -/
namespace DL
open PySem PySem.Spec PyProof.Rows L2
def zipP (ds es : List PD) : List PD := (ds.zip es).map fun p => .tuple [p.1, p.2]
theorem zipP_length {ds es : List PD} : (zipP ds es).length = min ds.length es.length := by simp [zipP]
theorem zipP_get {ds es : List PD} {i : Nat} {d : PD} (h : (zipP ds es)[i]? = some d) : ∃ a b, ds[i]? = some a ∧ es[i]? = some b ∧ d = .tuple [a, b] := by
  unfold zipP at h
  rw [List.getElem?_map] at h
  obtain ⟨⟨a, b⟩, hp, rfl⟩ := Option.map_eq_some_iff.mp h
  rw [List.getElem?_zip_eq_some] at hp
  exact ⟨a, b, hp.1, hp.2, rfl⟩
def zipF (ws : List W) (G : Sto) : Option (List PD) := match ws with
  | [.py (.tuple ds), .py (.tuple es)] => some (zipP ds es)
  | [a, b] => match lsqOf a G, lsqOf b G with
    | some ds, some es => some (zipP ds es)
    | _, _ => none
  | _ => none
/-- a list that lasts from statement to statement -/
def lasts : W → Option (List PD)
  | .py (.list ds) => some ds
  | .scr ds => some ds
  | _ => none
def zipS (ws : List W) (_ : Sto) : Option (List PD) := match ws with
  | [.py (.tuple ds), .py (.tuple es)] => some (zipP ds es)
  | [a, b] => match lasts a, lasts b with
    | some ds, some es => some (zipP ds es)
    | _, _ => none
  | _ => none
/-- as it stands in a block: a list of the frame too -/
def lastB : W → Option (List PD)
  | .py (.list ds) => some ds
  | .scr ds => some ds
  | .brw ds => some ds
  | _ => none
def zipB (ws : List W) (_ : Sto) : Option (List PD) := match ws with
  | [.py (.tuple ds), .py (.tuple es)] => some (zipP ds es)
  | [a, b] => match lastB a, lastB b with
    | some ds, some es => some (zipP ds es)
    | _, _ => none
  | _ => none
theorem zip_rpA {C : C0} {H : Hp} {as : List Addr} {ds es : List PD} {xs ys : List V} (r1 : RpA C H ds xs) (r2 : RpA C H es ys) (hl : as.length = min xs.length ys.length)
    (h : ∀ (j : Nat) c, as[j]? = some c → ∃ x y, xs[j]? = some x ∧ ys[j]? = some y ∧ H c = some (.tup [x, y])) : RpA C H (zipP ds es) (as.map V.ref) := by
  induction as generalizing ds es xs ys with
  | nil =>
    have e : zipP ds es = [] := by
      apply List.length_eq_zero_iff.mp
      rw [zipP_length, r1.length, r2.length, ← hl]
      rfl
    rw [e]
    exact .nil
  | cons c as ih =>
    obtain ⟨x, y, hx, hy, hc⟩ := h 0 c rfl
    cases ds with
    | nil => rw [rpA_nil.mp r1] at hx; cases hx
    | cons d ds =>
      cases es with
      | nil => rw [rpA_nil.mp r2] at hy; cases hy
      | cons e es =>
        obtain ⟨x', xr, rfl, p1, q1⟩ := rpA_cons.mp r1
        obtain ⟨y', yr, rfl, p2, q2⟩ := rpA_cons.mp r2
        cases hx; cases hy
        refine .cons (rp_tuple.mpr ⟨c, [x, y], rfl, .of hc, .cons p1 (.cons p2 .nil)⟩) (ih q1 q2 ?_ fun j k hj => h (j + 1) k (by simpa using hj))
        simp only [List.length_cons] at hl
        omega
def dLZ (as : Fm → M (List W)) : Fm → M W := fun ρ => bnd (as ρ) fun ws => lft fun G => (zipF ws G).map fun ds => .py (.list ds)
section
variable {X : Cx} {EE : EW} {a b : Expr} {dr : Fm → M (List W)} {p p2 pos pos2 : Pos}
theorem lz_go {C : C0} {φ : Ph} {G : Sto} {H : Hp} {ds es : List PD} {xs ys : List V} {Q : VK} (g : RelG C φ G H) (r1 : RpA C H ds xs) (r2 : RpA C H es ys) (k : Wish C φ H G (.py (.list (zipP ds es))) Q) :
    ∀ (H2 : Hp) (p : Addr) (as : List Addr), (∀ b o, H b = some o → H2 b = some o) → (∀ b, H b = none → H2 b ≠ none → b = p ∨ b ∈ as) → H p = none → H2 p = some (.lst (as.map V.ref)) → as.length = min xs.length ys.length →
    (∀ (j : Nat) c, as[j]? = some c → H c = none ∧ ∃ x y, xs[j]? = some x ∧ ys[j]? = some y ∧ H2 c = some (.tup [x, y])) → fz Q (.ref p) H2 := by
  intro H2 p as up _ n e2 hl hp
  have gr : Grow H H2 := up
  have x1 : Ext φ H φ H2 := gr.ext
  have g2 : RelG C φ G H2 := g.kp x1.kp fun a o _ h => gr a o h
  have q := zip_rpA (RpA.kp x1.kp _ r1) (RpA.kp x1.kp _ r2) hl fun j c hj => (hp j c hj).2
  refine .inr ⟨p, _, rfl, e2, fun o => ?_⟩
  refine k φ _ (x1.frz n e2) (g2.kp (kp_frz e2) fun b u hb hu => ?_) _ (rw_list.mpr ⟨p, _, rfl, ⟨o, upd_same⟩, RpA.kp (kp_frz e2) _ q⟩)
  have hne : b ≠ p := fun z => g.new_not n (by rw [← z]; exact hb)
  rw [upd_ne hne]
  exact hu
theorem me_lz (hc : X.calm = true) (hm : X.mg "list" = none) (hmz : X.mg "zip" = none) (ha : MA X EE [a, b] dr) (hg : Gl X "list" := by rfl) (hgz : Gl X "zip" := by rfl)
    (hs : starEach [a, b] X.env = (false, eval a X.env) :: starEach [b] X.env := by rfl) (hpl : (backTo pos2 (starEach [b] X.env)).any (·.1) = false := by rfl)
    (hs1 : starEach [.Call (.Name "zip" p2) [a, b] [] pos2] X.env = (false, eval (.Call (.Name "zip" p2) [a, b] [] pos2) X.env) :: starEach [] X.env := by rfl) (hp1 : (backTo pos (starEach [] X.env)).any (·.1) = false := by rfl) :
    ME X EE (.Call (.Name "list" p) [.Call (.Name "zip" p2) [a, b] [] pos2] [] pos) (dLZ dr) := by
  refine PE.weak (PE.fz (LZ.pe_lz hc hg hm hgz hmz ha hs hpl hs1 hp1)) fun σ H Q h => ?_
  obtain ⟨φ, ρ, G, g, e, h⟩ := h
  refine ⟨φ, ρ, G, g, e, (endsE.bnd h).mono fun ws G1 φ1 H1 x1 g1 k vs r1 => ?_⟩
  obtain ⟨w, hw, k⟩ := endsE.lft k
  obtain ⟨ds, hd, rfl⟩ := Option.map_eq_some_iff.mp hw
  unfold zipF at hd
  split at hd
  · cases hd
    obtain ⟨v, u, rfl, rv, ru⟩ := rwa2 r1
    obtain ⟨p1, us1, rfl, f1, q1⟩ := rw_tuple.mp rv
    obtain ⟨p3, us3, rfl, f3, q3⟩ := rw_tuple.mp ru
    exact ⟨p1, p3, us1, us3, rfl, .inr ⟨f1, f3⟩, lz_go g1 q1 q3 k⟩
  · obtain ⟨v, u, rfl, rv, ru⟩ := rwa2 r1
    split at hd
    · rename_i h1 h2
      cases hd
      obtain ⟨p1, us1, rfl, f1, q1⟩ := lsqOf_sq g1 rv h1
      obtain ⟨p3, us3, rfl, f3, q3⟩ := lsqOf_sq g1 ru h2
      exact ⟨p1, p3, us1, us3, rfl, .inl ⟨f1, f3⟩, lz_go g1 q1 q3 k⟩
    · cases hd
  · cases hd
end
section
variable {C : C0} {a b : Addr} {xs ys : List V} {ds es : List PD} {Ev : Hp → Prop}
theorem itOk_z (h : ∀ H, Ev H → SqL C.K H a xs ∧ RpA C H ds xs ∧ SqL C.K H b ys ∧ RpA C H es ys) : ItOk C Ev (Itz C.K a b) (zipP ds es) := fun H ev i => by
  obtain ⟨q1, r1, q2, r2⟩ := h H ev
  refine ⟨fun d hd => ?_, fun hi => ⟨xs, ys, q1, q2, ?_⟩⟩
  · obtain ⟨d1, d2, h1, h2, rfl⟩ := zipP_get hd
    obtain ⟨v1, hv1, rv1⟩ := r1.get h1
    obtain ⟨v2, hv2, rv2⟩ := r2.get h2
    refine ⟨⟨xs, ys, v1, v2, q1, q2, hv1, hv2⟩, fun x H' y => ?_⟩
    obtain ⟨T, x1, x2, rfl, nT, rfl, f1, f2⟩ := y
    have e1 := f1 xs q1
    have e2 := f2 ys q2
    rw [hv1] at e1; rw [hv2] at e2
    cases e1; cases e2
    have kp : Kp H (upd H T (.tup [v1, v2])) := (Ext.laid (φ := ⟨[], []⟩) nT).kp
    exact ⟨.laid nT, rp_tuple.mpr ⟨T, _, rfl, .of upd_same, .cons (Rp.kp kp _ rv1) (.cons (Rp.kp kp _ rv2) .nil)⟩⟩
  · rw [zipP_length, r1.length, r2.length] at hi
    omega
theorem itOk_zT (h : ∀ H, Ev H → SqT C.K H a xs ∧ RpA C H ds xs ∧ SqT C.K H b ys ∧ RpA C H es ys) : ItOk C Ev (RZ.ItzT C.K a b) (zipP ds es) := fun H ev i => by
  obtain ⟨q1, r1, q2, r2⟩ := h H ev
  refine ⟨fun d hd => ?_, fun hi => ⟨xs, ys, q1, q2, ?_⟩⟩
  · obtain ⟨d1, d2, h1, h2, rfl⟩ := zipP_get hd
    obtain ⟨v1, hv1, rv1⟩ := r1.get h1
    obtain ⟨v2, hv2, rv2⟩ := r2.get h2
    refine ⟨⟨xs, ys, v1, v2, q1, q2, hv1, hv2⟩, fun x H' y => ?_⟩
    obtain ⟨T, x1, x2, rfl, nT, rfl, f1, f2⟩ := y
    have e1 := f1 xs q1
    have e2 := f2 ys q2
    rw [hv1] at e1; rw [hv2] at e2
    cases e1; cases e2
    have kp : Kp H (upd H T (.tup [v1, v2])) := (Ext.laid (φ := ⟨[], []⟩) nT).kp
    exact ⟨.laid nT, rp_tuple.mpr ⟨T, _, rfl, .of upd_same, .cons (Rp.kp kp _ rv1) (.cons (Rp.kp kp _ rv2) .nil)⟩⟩
  · rw [zipP_length, r1.length, r2.length] at hi
    omega
theorem lasts_sq {φ : Ph} {H : Hp} {w : W} {v : V} (r : RW C φ H w v) (h : lasts w = some ds) : ∃ p xs, v = .ref p ∧ ∀ H2, Kp H H2 → SqL C.K H2 p xs ∧ RpA C H2 ds xs := by
  unfold lasts at h
  split at h
  · cases h
    obtain ⟨p, xs, rfl, f, q⟩ := rw_list.mp r
    exact ⟨p, xs, rfl, fun H2 k => ⟨(f.kp k).sq, RpA.kp k _ q⟩⟩
  · cases h
    obtain ⟨p, xs, rfl, f, q⟩ := r
    exact ⟨p, xs, rfl, fun H2 k => ⟨f.elim (fun z => (z.kp k).sq) .inr, RpA.kp k _ q⟩⟩
  · cases h
theorem lastB_sq {φ : Ph} {H : Hp} {w : W} {v : V} (r : RW C φ H w v) (h : lastB w = some ds) : ∃ p xs, v = .ref p ∧ ∀ φ2 H2, Ext φ H φ2 H2 → SqL C.K H2 p xs ∧ RpA C H2 ds xs := by
  unfold lastB at h
  split at h
  · cases h
    obtain ⟨p, xs, rfl, f, q⟩ := rw_list.mp r
    exact ⟨p, xs, rfl, fun _ H2 k => ⟨(f.kp k.kp).sq, RpA.kp k.kp _ q⟩⟩
  · cases h
    obtain ⟨p, xs, rfl, f, q⟩ := r
    exact ⟨p, xs, rfl, fun _ H2 k => ⟨f.elim (fun z => (z.kp k.kp).sq) .inr, RpA.kp k.kp _ q⟩⟩
  · cases h
    obtain ⟨p, xs, rfl, f, nm, q⟩ := r
    refine ⟨p, xs, rfl, fun _ H2 k => ⟨.inl ?_, RpA.kp k.kp _ q⟩⟩
    rcases f with f | ⟨o, f⟩
    · exact .inl (k.keep _ _ f nm)
    · exact .inr ⟨o, k.kp.frz _ _ _ f⟩
  · cases h
end
def dZip (F : List W → Sto → Option (List PD)) (as : Fm → M (List W)) : Fm → M (List PD) := fun ρ => bnd (as ρ) fun ws => lft (F ws)
section
variable {X : Cx} {EE : EW} {a b : Expr} {dr : Fm → M (List W)} {p pos tpos : Pos} {elts : List Expr} {kk : Nat}
theorem mis_zip (hm : X.mg "zip" = none) (ha : MA X EE [a, b] dr) (hg : Gl X "zip" := by rfl)
    (hs : starEach [a, b] X.env = (false, eval a X.env) :: starEach [b] X.env := by rfl) (hpl : (backTo pos (starEach [b] X.env)).any (·.1) = false := by rfl) :
    MIS X EE (.Tuple elts kk tpos) (.Call (.Name "zip" p) [a, b] [] pos) (dZip zipS dr) := by
  refine PI.weak (RZ.pi_zipA hg hm ha hs hpl) fun σ H R q => ?_
  obtain ⟨φ, ρ, G, g, e, q⟩ := q
  refine ⟨φ, ρ, G, g, e, (endsE.bnd q).mono fun ws G1 φ1 H1 x1 g1 k vs r1 => ?_⟩
  obtain ⟨ds, hd, kk⟩ := endsE.lft k
  have kk := kk φ1 H1 (.refl _ _) g1
  unfold zipS at hd
  split at hd
  · cases hd
    obtain ⟨v, u, rfl, rv, ru⟩ := rwa2 r1
    obtain ⟨p1, us1, rfl, f1, q1⟩ := rw_tuple.mp rv
    obtain ⟨p3, us3, rfl, f3, q3⟩ := rw_tuple.mp ru
    exact ⟨p1, p3, us1, us3, rfl, .inr ⟨f1, f3, kk _ (itOk_zT fun H2 k2 => ⟨sqT_kp k2 f1, RpA.kp k2 _ q1, sqT_kp k2 f3, RpA.kp k2 _ q3⟩)⟩⟩
  · obtain ⟨v, u, rfl, rv, ru⟩ := rwa2 r1
    split at hd
    · rename_i h1 h2
      cases hd
      obtain ⟨p1, us1, rfl, q1⟩ := lasts_sq rv h1
      obtain ⟨p3, us3, rfl, q3⟩ := lasts_sq ru h2
      exact ⟨p1, p3, us1, us3, rfl, .inl ⟨(q1 H1 (.refl _)).1, (q3 H1 (.refl _)).1, kk _ (itOk_z fun H2 k2 => ⟨(q1 H2 k2).1, (q1 H2 k2).2, (q3 H2 k2).1, (q3 H2 k2).2⟩)⟩⟩
    · cases hd
  · cases hd
theorem mi_zip (hm : X.mg "zip" = none) (ha : MA X EE [a, b] dr) (hg : Gl X "zip" := by rfl)
    (hs : starEach [a, b] X.env = (false, eval a X.env) :: starEach [b] X.env := by rfl) (hpl : (backTo pos (starEach [b] X.env)).any (·.1) = false := by rfl) :
    MI X EE (.Tuple elts kk tpos) (.Call (.Name "zip" p) [a, b] [] pos) (dZip zipB dr) := by
  refine PI.weak (RZ.pi_zipA hg hm ha hs hpl) fun σ H R q => ?_
  obtain ⟨φ, ρ, G, g, e, q⟩ := q
  refine ⟨φ, ρ, G, g, e, (endsE.bnd q).mono fun ws G1 φ1 H1 x1 g1 k vs r1 => ?_⟩
  obtain ⟨ds, hd, kk⟩ := endsE.lft k
  have kk := kk φ1 H1 (.refl _ _) g1
  unfold zipB at hd
  split at hd
  · cases hd
    obtain ⟨v, u, rfl, rv, ru⟩ := rwa2 r1
    obtain ⟨p1, us1, rfl, f1, q1⟩ := rw_tuple.mp rv
    obtain ⟨p3, us3, rfl, f3, q3⟩ := rw_tuple.mp ru
    exact ⟨p1, p3, us1, us3, rfl, .inr ⟨f1, f3, kk _ (itOk_zT fun H2 ⟨_, k2⟩ => ⟨sqT_kp k2.kp f1, RpA.kp k2.kp _ q1, sqT_kp k2.kp f3, RpA.kp k2.kp _ q3⟩)⟩⟩
  · obtain ⟨v, u, rfl, rv, ru⟩ := rwa2 r1
    split at hd
    · rename_i h1 h2
      cases hd
      obtain ⟨p1, us1, rfl, q1⟩ := lastB_sq rv h1
      obtain ⟨p3, us3, rfl, q3⟩ := lastB_sq ru h2
      have q1' := q1 φ1 H1 (.refl _ _)
      have q3' := q3 φ1 H1 (.refl _ _)
      exact ⟨p1, p3, us1, us3, rfl, .inl ⟨q1'.1, q3'.1, kk _ (itOk_z fun H2 ⟨φ2, k2⟩ => ⟨(q1 φ2 H2 k2).1, (q1 φ2 H2 k2).2, (q3 φ2 H2 k2).1, (q3 φ2 H2 k2).2⟩)⟩⟩
    · cases hd
  · cases hd
end
end DL

set_option maxHeartbeats 1000000
/-! DL8: lists that are not written any more, behind a statement; name = [..]; what a def has. -/
namespace DL
open PySem PySem.Spec PyProof.Rows L2
/-- behind a statement a list is not written any more -/
theorem PS.fzN {X : Cx} {st : Stmt} {t : TS} (h : PS X st t) : PS X st (fun D σ H => t { D with nx := fun σ H => D.nx σ H ∨ ∃ a xs, H a = some (.lst xs) ∧ ∀ o, D.nx σ (upd H a (.frz o (.lst xs))) } σ H) :=
  ⟨fun pins s σ H D I q => thn (h.run pins s σ H _ I q) fun f s1 q1 => by
    cases f with
    | next =>
      obtain ⟨σ', H', I', q⟩ := q1
      rcases q with q | ⟨a, xs, e, q⟩
      · exact ⟨σ', H', I', q⟩
      · obtain ⟨o, I2⟩ := DL.Inv.freeze I' e
        exact ⟨σ', _, I2, q o⟩
    | ret v => exact q1
    | brk => exact q1
    | cont => exact q1⟩
/-- the frame's list at i becomes a value -/
def fzAt (i : Nat) (r : RS) : RS := match r with
  | .nx ρ G => match ρ[i]? with
    | some (.own ds) => .nx (ρ.set i (.val (.py (.list ds)))) G
    | _ => .bad
  | r => r
def sFzS (i : Nat) (a : MS) : MS := fun ρ G => fzAt i (a ρ G)
theorem StR.fz {C : C0} {o : Org} {φ : Ph} {ρ : Fm} {G : Sto} {σ : L2.St} {H : Hp} {i : Nat} {ds : List PD} {xs : List V} {a : Addr} (s : StR C o φ ρ G σ H) (hi : ρ[i]? = some (.own ds)) (hσ : σ[i]? = some (some (.ref a))) (eH : H a = some (.lst xs)) (r : RpA C H ds xs) (nm : a ∉ φ.mu) (ob : Obj) :
    StR C o φ (ρ.set i (.val (.py (.list ds)))) G σ (upd H a (.frz ob (.lst xs))) := by
  have kp := kp_frz (o := ob) eH
  have out : ∀ (j : Nat) dj, (ρ.set i (.val (.py (.list ds))))[j]? = some (.own dj) → i ≠ j ∧ ρ[j]? = some (.own dj) := fun j dj h => by
    have nj : i ≠ j := fun z => by
      subst z
      rw [List.getElem?_set, if_pos rfl] at h
      split at h <;> cases h
    rw [List.getElem?_set_ne nj] at h
    exact ⟨nj, h⟩
  refine ⟨s.ext.frz (s.b i ds a hi hσ) eH, s.kp.trans kp, s.g.kp kp fun b u hb hu => ?_, ⟨by rw [List.length_set, s.e.len], fun j w hj => ?_, fun j dj hj => ?_, fun j k dj dk b h1 h2 h3 h4 => ?_⟩, fun j dj b h1 h2 => ?_⟩
  · have hne : b ≠ a := fun z => nm (by rw [← z]; exact hb)
    rw [upd_ne hne]
    exact hu
  · by_cases h : i = j
    · subst h
      rw [List.getElem?_set, if_pos rfl] at hj
      split at hj
      · cases hj
        exact ⟨rfl, _, hσ, rw_list.mpr ⟨a, xs, rfl, ⟨ob, upd_same⟩, RpA.kp kp _ r⟩⟩
      · cases hj
    · rw [List.getElem?_set_ne h] at hj
      obtain ⟨q1, v, q2, q3⟩ := s.e.val j w hj
      exact ⟨q1, v, q2, q3.kp kp (fun _ _ z => z) q1⟩
  · obtain ⟨nj, hj⟩ := out j dj hj
    obtain ⟨b, ys, q1, q2, q3, q4⟩ := s.e.own j dj hj
    have hne : b ≠ a := fun z => by
      subst z
      exact nj (s.e.sep i j ds dj b hi hj hσ q1)
    exact ⟨b, ys, q1, by rw [upd_ne hne]; exact q2, RpA.kp kp _ q3, q4⟩
  · exact s.e.sep j k dj dk b (out j dj h1).2 (out k dk h2).2 h3 h4
  · exact s.b j dj b (out j dj h1).2 h2
section
variable {X : Cx} {EE : EW} {st : Stmt} {a : MS}
theorem ms_fzS (i : Nat) (h : MSt X EE st a) : MSt X EE st (sFzS i a) := fun o => PS.weak (PS.fzN (h o)) fun D σ H q => by
  obtain ⟨φ, ρ, G, s, q⟩ := q
  refine ⟨φ, ρ, G, s, ?_⟩
  unfold sFzS fzAt at q
  cases hr : a ρ G with
  | nx ρ' G' =>
    rw [hr] at q
    dsimp only at q
    intro φ' σ' H' s'
    cases hi : ρ'[i]? with
    | none => rw [hi] at q; exact q.elim
    | some sl =>
      rw [hi] at q
      cases sl with
      | none => exact q.elim
      | val w => exact q.elim
      | own ds =>
        obtain ⟨b, xs, e1, e2, r, nm⟩ := s'.e.own i ds hi
        exact .inr ⟨b, xs, e2, fun ob => q φ' σ' _ (s'.fz hi e1 e2 r nm ob)⟩
  | rt w G' => rw [hr] at q; exact q
  | bk ρ' G' => rw [hr] at q; exact q
  | ct ρ' G' => rw [hr] at q; exact q
  | exc x ρ' G' => rw [hr] at q; exact q
  | bad => rw [hr] at q; exact q
/-- y = [..] on one line -/
theorem ms_setLc (i : Nat) {y : Str} {py : Pos} {elt tg iter : Expr} {ifs : List Expr} {scope : Scope} {own : List (Str × Nat)} {pos spos : Pos} {di : Fm → M (List PD)} {ts : List Nat} {b : Bnd} {dt : Fm → M Bool} {de : Fm → M W}
    (hc : X.calm = true) (hN : X.N.Nodup) (hi : MI X EE tg iter di) (ok : BlkOk X.N X.env.scope scope own)
    (hg : ∀ (s : Shared) (H : Hp) (C : Addr) (cl : List (Str × Addr)) (fp : List Addr), MG (X.blk s H scope (compEnvC scope cl C X.env) fp) tg ts b)
    (ht : ∀ (s : Shared) (H : Hp) (C : Addr) (cl : List (Str × Addr)) (fp : List Addr), MTs (X.blk s H scope (compEnvC scope cl C X.env) fp) EW0 ifs dt)
    (he : ∀ (s : Shared) (H : Hp) (C : Addr) (cl : List (Str × Addr)) (fp : List Addr), ME (X.blk s H scope (compEnvC scope cl C X.env) fp) EW0 elt de)
    (hts : ∀ t ∈ ts, t ∈ own.map (·.2)) (hsw : swapsWith (.ListComp elt [⟨tg, iter, ifs, 0⟩] scope pos) (some (.Name y py)) spos.line X.env = pure true)
    (hy : X.N[i]? = some y := by rfl) (hyl : X.env.scope.names.lookup y = some .local := by rfl) (hs : ∀ x, foldedSetIterable iter X.env x = pure x := by intro _; rfl) :
    MSt X EE (.Assign [.Name y py] (.ListComp elt [⟨tg, iter, ifs, 0⟩] scope pos) spos) (sSetF i (dLc di (own.map (·.2)) b dt de)) := fun o =>
  PS.weak (ps_setLc (g := tMG (c0 X) ts b) (tt := tMT (c0 X) EW0 dt) (te := tM (c0 X) EW0 de) hc hN hy hyl hsw hi ok (fun s H C cl fp => hg s H C cl fp) (fun s H C cl fp => ht s H C cl fp) (fun s H C cl fp => he s H C cl fp) hs) fun D σ H h => by
    obtain ⟨φ, ρ, G, s, h⟩ := h
    exact lc_weak hts ⟨φ, ρ, G, s.g, s.e, exS_ends s h fun ds G1 φ1 H1 x1 g1 s1 k a xs n e1 nm r => setF_go s s1 k a xs n e1 nm r⟩
/-- two tests in a comprehension -/
def dTs (a b : Fm → M Bool) : Fm → M Bool := fun ρ => bnd (a ρ) fun x => if x = true then b ρ else ret false
/-- an int of the module -/
theorem me_gint {x : Str} {i : Int} {pos : Pos} (h : ∃ t, X.mg x = some (.int i t)) (hg : Gl X x := by rfl) (hd : (x == ("__debug__" : Str)) = false := by decide) : ME X EE (.Name x pos) (dC (.int i)) := by
  obtain ⟨t, hm⟩ := h
  exact me_glob (v := .int i) hg hm ⟨t, rfl⟩ (fun H => (rp_int (C := c0 X) (H := H)).mpr rfl) hd
theorem me_gstr {x z : Str} {pos : Pos} (h : ∃ t, X.mg x = some (.str z t)) (hg : Gl X x := by rfl) (hd : (x == ("__debug__" : Str)) = false := by decide) : ME X EE (.Name x pos) (dC (.str z)) := by
  obtain ⟨t, hm⟩ := h
  exact me_glob (v := .str z) hg hm ⟨t, rfl⟩ (fun H => (rp_str (C := c0 X) (H := H)).mpr rfl) hd
end
/-- what a def has -/
structure FnHas (P : Program) (w : World) (K : PySem.W.Frag) (mg : Str → Option Value) (base : Heap) (k : Nat) (x : Str) (ps : List Str) (sp : Sp) : Prop where
  ex : ∃ f fd, mg x = some (.ref f) ∧ PySem.W.keepIn K (.ref f) = true ∧ Binds K fd ps [] ∧ FnOk P w K mg base CX0 k f fd ps sp
theorem FnHas.mk' {P : Program} {w : World} {K : PySem.W.Frag} {mg : Str → Option Value} {base : Heap} {k : Nat} {x qual : Str} {st : Stmt} {f : Addr} {fd : FuncData} {ps : List Str} {sp : Sp} (F : Fun K x qual st f fd) (hm : mg x = some (.ref f)) (b : Binds K fd ps []) (ok : FnOk P w K mg base CX0 k f fd ps sp) :
    FnHas P w K mg base k x ps sp := ⟨f, fd, hm, F.kp, b, ok⟩
section
variable {X : Cx} {EE : EW} {j k n : Nat} {ps : List Str} {m : List W → M W} {x : Str} {p pos : Pos} {e : Expr} {es : List Expr} {dr : Fm → M (List W)}
theorem me_callH (F : FnHas X.prog X.w X.K X.mg X.base j x ps (spD (c0 X) n m)) (hj : j ≤ k) (hr : Room k X.A) (ha : MA X EE (e :: es) dr) (hg : Gl X x := by rfl) (hdb : (x == ("__debug__" : Str)) = false := by decide)
    (he : starEach (e :: es) X.env = (false, eval e X.env) :: starEach es X.env := by rfl) (hpl : (backTo pos (starEach es X.env)).any (·.1) = false := by rfl) :
    ME X EE (.Call (.Name x p) (e :: es) [] pos) (dCall n m dr) := by
  obtain ⟨f, fd, hm, hk, hb, F⟩ := F.ex
  exact me_call (F.mono hj) hr hg hm hk hb ha hdb he hpl
theorem me_callH0 (F : FnHas X.prog X.w X.K X.mg X.base j x ps (spD (c0 X) n m)) (hj : j ≤ k) (hr : Room k X.A) (hg : Gl X x := by rfl) (hdb : (x == ("__debug__" : Str)) = false := by decide) :
    ME X EE (.Call (.Name x p) [] [] pos) (dCall n m dNil) := by
  obtain ⟨f, fd, hm, hk, hb, F⟩ := F.ex
  exact me_call0 (F.mono hj) hr hg hm hk hb hdb
end
/-- the law's own promise, from its denotation -/
theorem law_sp {C : C0} {m : List W → M W} {n : Nat} (h : ∀ ns : List Int, ns.length ≤ n → ∃ G', m [.scr (ns.map PyData.int)] [] = .ok (.py (.bool true)) G') {H : Hp} {a : Addr} {ns : List Int} (hl : ns.length ≤ n) (ho : Only H) (hS : SqL C.K H a (ns.map V.int)) :
    spD C 1 m [.ref a] H (fun v _ => v = .bl true) fun _ _ _ => False := by
  obtain ⟨G', e⟩ := h ns hl
  have q : FzL H a (ns.map V.int) ∨ KL C.K a (ns.map V.int) := by
    rcases hS with (hS | ⟨o, hS⟩) | hS
    · rcases ho a with z | ⟨o, xs, z⟩
      · rw [hS] at z; cases z
      · rw [hS] at z; cases z
    · exact .inl ⟨o, hS⟩
    · exact .inr hS
  refine ⟨⟨[], []⟩, [], [.scr (ns.map PyData.int)], ⟨rfl, .nil, fun _ h => (nomatch h), fun _ h => (nomatch h), fun n o h => (nomatch (show (none : Option GO) = some o from h))⟩, ?_, rfl, rfl, _, G', e, fun φ' H' v _ _ r => rw_bool.mp r⟩
  exact ⟨_, [], rfl, ⟨a, _, rfl, q, RpA.of_ints⟩, rfl⟩
end DL

set_option maxHeartbeats 1000000
/-! DL9: what the readings come to: rules for simp. -/
namespace DL
open PySem PySem.Spec PyProof.Rows L2
section
variable {α β : Type} {m : M α} {f : α → M β} {G : Sto} {a : α} {ρ : Fm} {x : Exn}
@[simp] theorem bnd_app : bnd m f G = (match m G with | .ok a G' => f a G' | .exc x G' => .exc x G' | .bad => .bad) := rfl
@[simp] theorem bndX_app : bndX m f G = (match m G with | .ok a G' => f a G' | _ => .bad) := rfl
@[simp] theorem ret_app : DL.ret a G = .ok a G := rfl
@[simp] theorem lft_app {o : Sto → Option α} : lft o G = (match o G with | some a => .ok a G | none => .bad) := rfl
@[simp] theorem exS_ok_ {f : α → Sto → RS} : exS (.ok a G) ρ f = f a G := rfl
@[simp] theorem exS_exc_ {f : α → Sto → RS} : exS (.exc x G : R α) ρ f = .exc x ρ G := rfl
@[simp] theorem exS_bad_ {f : α → Sto → RS} : exS (.bad : R α) ρ f = .bad := rfl
end
section
variable {ρ : Fm} {G : Sto} {da db dc : Fm → M W} {dr : Fm → M (List W)} {dl : Fm → M (List PD)} {ta tb : Fm → M Bool} {i j : Nat} {d : PD} {F F' : W → W → Sto → Option W} {F1 : W → Sto → Option W} {FN : List W → Sto → Option W}
@[simp] theorem ev_var : dVar i ρ G = (match ρ[i]? with | some (.val w) => .ok w G | some (.own ds) => .ok (.brw ds) G | _ => .bad) := rfl
@[simp] theorem ev_C : dC d ρ G = .ok (.py d) G := rfl
@[simp] theorem ev_nil : dNil ρ G = .ok [] G := rfl
@[simp] theorem ev_cons : dCons da dr ρ = bnd (da ρ) fun x => bnd (dr ρ) fun xs => DL.ret (x :: xs) := rfl
@[simp] theorem ev_op : dOp F da db ρ = bnd (da ρ) fun x => bnd (db ρ) fun y => lft (F x y) := rfl
@[simp] theorem ev_un : dUn F1 da ρ = bnd (da ρ) fun x => lft (F1 x) := rfl
@[simp] theorem ev_bi : dBi FN dr ρ = bnd (dr ρ) fun ws => lft (FN ws) := rfl
@[simp] theorem ev_call {n : Nat} {m : List W → M W} : dCall n m dr ρ = bnd (dr ρ) (callD n m) := rfl
@[simp] theorem callD_app {n : Nat} {m : List W → M W} {ws : List W} : callD n m ws G = if ws.all stab = true ∧ ws.length = n then (match m ws G with | .ok w G' => .ok w G' | _ => .bad) else .bad := by
  unfold callD
  split
  · show bndX (m ws) DL.ret G = _
    rw [bndX_app]
    cases m ws G <;> rfl
  · rfl
@[simp] theorem ev_fz : dFz dl ρ = bnd (dl ρ) fun ds => DL.ret (.py (.list ds)) := rfl
@[simp] theorem ev_lst : dLst dr ρ = bnd (dr ρ) fun ws => lft fun _ => match allPy ws with | some ds => if ds.length ≤ 1000 then some ds else none | none => none := rfl
@[simp] theorem ev_tup : dTup dr ρ = bnd (dr ρ) fun ws => lft fun _ => match allPy ws with | some ds => if ds.length ≤ 1000 then some (.py (.tuple ds)) else none | none => none := rfl
@[simp] theorem allPy_nil : allPy [] = some [] := rfl
@[simp] theorem allPy_py {r : List W} : allPy (.py d :: r) = (allPy r).map (d :: ·) := rfl
@[simp] theorem ev_alloc : dAlloc dl ρ G = (match dl ρ G with | .ok ds G' => .ok (.obj G'.length) (G' ++ [.lst ds]) | .exc x G' => .exc x G' | .bad => .bad) := by
  show bnd (dl ρ) _ G = _
  rw [bnd_app]
  cases dl ρ G <;> rfl
@[simp] theorem ev_no : dNo ρ G = .ok none G := rfl
@[simp] theorem ev_part : dPart da ρ = bnd (da ρ) fun x => lft fun _ => match x with | .py (.int i) => some (some i) | _ => none := rfl
@[simp] theorem ev_slice {lo hi : Fm → M (Option Int)} : dSlice da lo hi ρ = bnd (da ρ) fun x => bnd (lo ρ) fun l => bnd (hi ρ) fun u => lft (sliceW x l u) := rfl
@[simp] theorem ev_test : dTest da ρ = bnd (da ρ) fun x => lft (truW x) := rfl
@[simp] theorem ev_bol : dBol da ρ = bnd (da ρ) fun x => lft fun _ => bolW x := rfl
@[simp] theorem bolW_b {b : Bool} : bolW (.py (.bool b)) = some b := rfl
@[simp] theorem ev_notT : dNotT ta ρ = bnd (ta ρ) fun b => DL.ret (!b) := rfl
@[simp] theorem ev_andT : dAndT ta tb ρ = bnd (ta ρ) fun x => if x = true then tb ρ else DL.ret false := rfl
@[simp] theorem ev_orT : dOrT ta tb ρ = bnd (ta ρ) fun x => if x = true then DL.ret true else tb ρ := rfl
@[simp] theorem ev_not : dNot da ρ = bnd (da ρ) fun x => lft fun G => (truW x G).map fun b => .py (.bool (!b)) := rfl
@[simp] theorem ev_and : dAnd da db ρ = bnd (da ρ) fun x => bnd (lft (truW x)) fun k => if k = true then db ρ else DL.ret x := rfl
@[simp] theorem ev_or : dOr da db ρ = bnd (da ρ) fun x => bnd (lft (truW x)) fun k => if k = true then DL.ret x else db ρ := rfl
@[simp] theorem ev_ifE : dIfE ta da db ρ = bnd (ta ρ) fun x => if x = true then da ρ else db ρ := rfl
@[simp] theorem ev_chain : dChain F F' da db dc ρ = bnd (da ρ) fun x => bnd (db ρ) fun y => bnd (lft (F x y)) fun z => match z with
  | .py (.bool true) => bnd (dc ρ) fun w => lft (F' y w)
  | .py (.bool false) => DL.ret (.py (.bool false))
  | _ => fun _ => .bad := rfl
@[simp] theorem ev_isa {Ts : List String} : isaD Ts da ρ = bnd (da ρ) fun x => lft fun _ => (tyN x).map fun t => .py (.bool (Ts.any fun T => isaN t T)) := rfl
@[simp] theorem ev_yes : dYes ρ G = .ok true G := rfl
@[simp] theorem ev_seqS : dSeqS da ρ = bnd (da ρ) fun x => lft fun _ => seqS x := rfl
@[simp] theorem ev_seqB : dSeqB da ρ = bnd (da ρ) fun x => lft fun _ => seqB x := rfl
@[simp] theorem ev_rng {f : List W → Option (List PD)} : dRng f dr ρ = bnd (dr ρ) fun ws => lft fun _ => f ws := rfl
@[simp] theorem ev_zip {f : List W → Sto → Option (List PD)} : dZip f dr ρ = bnd (dr ρ) fun ws => lft (f ws) := rfl
@[simp] theorem ev_LZ : dLZ dr ρ = bnd (dr ρ) fun ws => lft fun G => (zipF ws G).map fun ds => .py (.list ds) := rfl
@[simp] theorem ev_lc {it : Fm → M (List PD)} {vs : List Nat} {b : Bnd} : dLc it vs b ta da ρ = bnd (it ρ) fun ds => if ds.length ≤ 16777216 then lcL b ta da (wipeF ρ vs) ds else fun _ => .bad := rfl
@[simp] theorem seqS_l {ds : List PD} : seqS (.py (.list ds)) = some ds := rfl
@[simp] theorem seqS_t {ds : List PD} : seqS (.py (.tuple ds)) = some ds := rfl
@[simp] theorem seqB_l {ds : List PD} : seqB (.py (.list ds)) = some ds := rfl
@[simp] theorem seqB_t {ds : List PD} : seqB (.py (.tuple ds)) = some ds := rfl
@[simp] theorem seqB_b {ds : List PD} : seqB (.brw ds) = some ds := rfl
@[simp] theorem stab_py : stab (.py d) = true := rfl
@[simp] theorem stab_obj : stab (.obj i) = true := rfl
@[simp] theorem stab_scr {ds : List PD} : stab (.scr ds) = true := rfl
@[simp] theorem stab_brw {ds : List PD} : stab (.brw ds) = false := rfl
@[simp] theorem bName_app {w : W} : bName i w ρ = if stab w = true then some (ρ.set i (.val w)) else none := rfl
@[simp] theorem bNil_app : bNil [] ρ = some ρ := rfl
@[simp] theorem bCons_app {b : Bnd} {r : List PD → Fm → Option Fm} {ds : List PD} : bCons b r (d :: ds) ρ = (b (.py d) ρ).bind (r ds) := rfl
@[simp] theorem bTup_app {n : Nat} {b : List PD → Fm → Option Fm} {ds : List PD} : bTup n b (.py (.tuple ds)) ρ = if ds.length = n then b ds ρ else none := rfl
@[simp] theorem wipeF_nil : wipeF ρ [] = ρ := rfl
@[simp] theorem wipeF_cons {v : Nat} {vs : List Nat} : wipeF ρ (v :: vs) = (wipeF ρ vs).set v .none := rfl
end
section
variable {ρ : Fm} {G : Sto} {de : Fm → M W} {dr : Fm → M (List W)} {df : Fm → M (List PD)} {c : Fm → M Bool} {a b : MS} {i j : Nat}
@[simp] theorem ev_sNil : sNil ρ G = .nx ρ G := rfl
@[simp] theorem ev_sSeq : sSeq a b ρ G = (match a ρ G with | .nx ρ' G' => b ρ' G' | r => r) := rfl
@[simp] theorem ev_sExpr : sExpr de ρ G = exS (de ρ G) ρ fun _ G' => .nx ρ G' := rfl
@[simp] theorem ev_sRet : sRet de ρ G = exS (de ρ G) ρ fun w G' => .rt w G' := rfl
@[simp] theorem ev_sRetN : sRetN ρ G = .rt (.py .none) G := rfl
@[simp] theorem ev_sRetV : sRetV i ρ G = (match ρ[i]? with | some (.val w) => .rt w G | some (.own ds) => .rt (.py (.list ds)) G | _ => .bad) := rfl
@[simp] theorem ev_sBreak : sBreak ρ G = .bk ρ G := rfl
@[simp] theorem ev_sCont : sCont ρ G = .ct ρ G := rfl
@[simp] theorem ev_sIf : sIf c a b ρ G = exS (c ρ G) ρ fun t G' => if t = true then a ρ G' else b ρ G' := rfl
@[simp] theorem ev_sSet : sSet i de ρ G = exS (de ρ G) ρ fun w G' => if stab w = true then .nx (ρ.set i (.val w)) G' else .bad := rfl
@[simp] theorem ev_sSetF : sSetF i df ρ G = exS (df ρ G) ρ fun ds G' => .nx (ρ.set i (.own ds)) G' := rfl
@[simp] theorem ev_sFzS : sFzS i a ρ G = fzAt i (a ρ G) := rfl
@[simp] theorem fzAt_nx : fzAt i (.nx ρ G) = (match ρ[i]? with | some (.own ds) => .nx (ρ.set i (.val (.py (.list ds)))) G | _ => .bad) := rfl
@[simp] theorem ev_sAsg {b : Bnd} : sAsg b de ρ G = exS (de ρ G) ρ fun w G' => match b w ρ with | some ρ' => .nx ρ' G' | none => .bad := rfl
@[simp] theorem ev_sPar : sPar i j dr ρ G = exS (dr ρ G) ρ fun ws G' => match ws with | [x, y] => if stab x = true ∧ stab y = true then .nx ((ρ.set i (.val x)).set j (.val y)) G' else .bad | _ => .bad := rfl
@[simp] theorem ev_sParF : sParF i j df de ρ G = exS (df ρ G) ρ fun ds G1 => exS (de ρ G1) ρ fun w G2 => if stab w = true then .nx ((ρ.set i (.own ds)).set j (.val w)) G2 else .bad := rfl
@[simp] theorem ev_sAug {F : W → W → Sto → Option W} : sAug i F de ρ G = (match ρ[i]? with | some (.val w) => exS (de ρ G) ρ fun u G' => (match F w u G' with | some c => if stab c = true then .nx (ρ.set i (.val c)) G' else .bad | none => .bad) | _ => .bad) := rfl
@[simp] theorem ev_sPut {do_ di dv : Fm → M W} : sPut do_ di dv ρ G = exS (dv ρ G) ρ fun v G1 => exS (do_ ρ G1) ρ fun o G2 => exS (di ρ G2) ρ fun i G3 => match putIx o i v G3 with | some G4 => .nx ρ G4 | none => .bad := rfl
@[simp] theorem ev_sAugPut {F : W → W → Sto → Option W} {do_ di dv : Fm → M W} : sAugPut F do_ di dv ρ G = exS (do_ ρ G) ρ fun o G1 => exS (di ρ G1) ρ fun i G2 => match getIx o i G2 with
  | some old => exS (dv ρ G2) ρ fun v G3 => (match F (.py old) v G3 with
    | some c => (match putIx o i c G3 with
      | some G4 => .nx ρ G4
      | none => .bad)
    | none => .bad)
  | none => .bad := rfl
@[simp] theorem ev_sOwnM {F : List PD → List W → Sto → Option (W × List PD)} : sOwnM i F dr ρ G = (match ρ[i]? with | some (.own ds) => exS (dr ρ G) ρ fun ws G' => (match F ds ws G' with | some (_, es) => .nx (ρ.set i (.own es)) G' | none => .bad) | _ => .bad) := rfl
@[simp] theorem ev_sOwnMS {F : List PD → List W → Sto → Option (W × List PD)} : sOwnMS i j F dr ρ G = (match ρ[i]? with | some (.own ds) => exS (dr ρ G) ρ fun ws G' => (match F ds ws G' with | some (w, es) => .nx ((ρ.set i (.own es)).set j (.val w)) G' | none => .bad) | _ => .bad) := rfl
@[simp] theorem ev_sFor {di : Fm → M (List PD)} {b : Bnd} : sFor di b a ρ G = exS (di ρ G) ρ fun ds G' => forL b a ds ρ G' := rfl
@[simp] theorem fnD_app {n : Nat} {ws : List W} : fnD n a ws G = (match a (fm0 n ws) G with | .rt w G' => .ok w G' | .nx _ G' => .ok (.py .none) G' | .exc x _ G' => .exc x G' | _ => .bad) := rfl
end
@[simp] theorem fm0_app {n : Nat} {ws : List W} : fm0 n ws = ws.map Slot.val ++ List.replicate (n - ws.length) .none := rfl
theorem forL_nil {b : Bnd} {body : MS} {ρ : Fm} {G : Sto} : forL b body [] ρ G = .nx ρ G := rfl
theorem forL_cons {b : Bnd} {body : MS} {ρ : Fm} {G : Sto} {d : PD} {ds : List PD} : forL b body (d :: ds) ρ G = (match b (.py d) ρ with
  | none => .bad
  | some ρ1 => (match body ρ1 G with
    | .nx ρ2 G2 => forL b body ds ρ2 G2
    | .ct ρ2 G2 => forL b body ds ρ2 G2
    | .bk ρ2 G2 => .nx ρ2 G2
    | r => r)) := rfl

/-! ### values -/
section
variable {G : Sto} {i j : Int} {d e : PD} {ds es : List PD} {b p q : Bool} {x y : Str} {n : Nat}
theorem mulI_ok {i j : Int} (h : mulOk i j = true) : mulI i j = some (.int (i * j)) := by unfold mulI; rw [if_pos h]
theorem mulOk_r {i j : Int} (h : -18446744073709551616 < j) (h2 : j < 18446744073709551616) : mulOk i j = true := by unfold mulOk; simp [h, h2]
theorem mulOk_l {i j : Int} (h : -18446744073709551616 < i) (h2 : i < 18446744073709551616) : mulOk i j = true := by unfold mulOk; simp [h, h2]
theorem divOk_of {j : Int} (h : 0 < j) (h2 : j < 1000000000000000000000000) : divOk j = true := by
  unfold divOk
  simp only [Bool.and_eq_true, decide_eq_true_eq]
  refine ⟨h, ?_⟩
  have h3 : j.natAbs < 2 ^ 80 := by omega
  by_cases h0 : j.natAbs = 0
  · rw [h0]; decide
  · have := (Nat.log2_lt h0).mpr h3
    omega
@[simp] theorem addW_int : addW (.py (.int i)) (.py (.int j)) G = some (.py (.int (i + j))) := rfl
@[simp] theorem addW_lst : addW (.py (.list ds)) (.py (.list es)) G = if ds.length + es.length ≤ 16777216 then some (.py (.list (ds ++ es))) else none := rfl
@[simp] theorem addW_tup : addW (.py (.tuple ds)) (.py (.tuple es)) G = if ds.length + es.length ≤ 16777216 then some (.py (.tuple (ds ++ es))) else none := rfl
@[simp] theorem addW_str : addW (.py (.str x)) (.py (.str y)) G = if x.length + y.length ≤ 16777216 then some (.py (.str (x ++ y))) else none := rfl
@[simp] theorem intsW_int {F : Int → Int → Option PD} : intsW F (.py (.int i)) (.py (.int j)) G = (F i j).map W.py := rfl
@[simp] theorem subW_int : subW (.py (.int i)) (.py (.int j)) G = some (.py (.int (i - j))) := rfl
@[simp] theorem addI_int : addI (.py (.int i)) (.py (.int j)) G = some (.py (.int (i + j))) := rfl
@[simp] theorem fdivW_int : fdivW (.py (.int i)) (.py (.int j)) G = if divOk j = true then some (.py (.int (i / j))) else none := by
  show Option.map W.py (if divOk j = true then some (PyData.int (i / j)) else none) = _
  split <;> rfl
@[simp] theorem modW_int : modW (.py (.int i)) (.py (.int j)) G = if 0 < j then some (.py (.int (i % j))) else none := by
  show Option.map W.py (if 0 < j then some (PyData.int (i % j)) else none) = _
  split <;> rfl
@[simp] theorem powW_int : powW (.py (.int i)) (.py (.int j)) G = if powOk i j = true then some (.py (.int (i ^ j.toNat))) else none := by
  show Option.map W.py (if powOk i j = true then some (PyData.int (i ^ j.toNat)) else none) = _
  split <;> rfl
@[simp] theorem negW_int : negW (.py (.int i)) G = some (.py (.int (-i))) := rfl
theorem depth_int : (PyData.int i).depth = 0 := by simp [PyData.depth]
theorem depth_bool : (PyData.bool b).depth = 0 := by simp [PyData.depth]
theorem depth_none : PyData.none.depth = 0 := by simp [PyData.depth]
theorem depth_str : (PyData.str x).depth = 0 := by simp [PyData.depth]
theorem datW_py {n : Nat} {f : PD → PD → Option Bool} : datW n f (.py d) (.py e) G = if min d.depth e.depth ≤ n then (f d e).map fun b => .py (.bool b) else none := rfl
@[simp] theorem eqW_int : eqW (.py (.int i)) (.py (.int j)) G = some (.py (.bool (decide (i = j)))) := by
  unfold eqW
  rw [datW_py, depth_int, if_pos (by omega)]
  simp [PyData.eqv]
  by_cases h : i = j <;> simp [h]
@[simp] theorem neW_int : neW (.py (.int i)) (.py (.int j)) G = some (.py (.bool (!decide (i = j)))) := by
  unfold neW
  rw [datW_py, depth_int, if_pos (by omega)]
  simp [PyData.eqv]
  by_cases h : i = j <;> simp [h]
@[simp] theorem eqW_bool : eqW (.py (.bool p)) (.py (.bool q)) G = some (.py (.bool (p == q))) := by
  unfold eqW
  rw [datW_py, depth_bool, if_pos (by omega)]
  cases p <;> cases q <;> simp [PyData.eqv]
@[simp] theorem neW_bool : neW (.py (.bool p)) (.py (.bool q)) G = some (.py (.bool (!(p == q)))) := by
  unfold neW
  rw [datW_py, depth_bool, if_pos (by omega)]
  cases p <;> cases q <;> simp [PyData.eqv]
@[simp] theorem ltW_int : ltW (.py (.int i)) (.py (.int j)) G = some (.py (.bool (decide (i < j)))) := by
  unfold ltW
  rw [datW_py, depth_int, if_pos (by omega)]
  rfl
@[simp] theorem leW_int : leW (.py (.int i)) (.py (.int j)) G = some (.py (.bool (decide (i ≤ j)))) := by
  unfold leW
  rw [datW_py, depth_int, if_pos (by omega)]
  rfl
@[simp] theorem gtW_int : gtW (.py (.int i)) (.py (.int j)) G = some (.py (.bool (decide (j < i)))) := by
  unfold gtW
  rw [datW_py, depth_int, if_pos (by omega)]
  rfl
@[simp] theorem geW_int : geW (.py (.int i)) (.py (.int j)) G = some (.py (.bool (decide (j ≤ i)))) := by
  unfold geW
  rw [datW_py, depth_int, if_pos (by omega)]
  rfl
@[simp] theorem isW_non {neg : Bool} : isW neg (.py d) (.py .none) G = some (.py (.bool (if neg then !isNon (.py d) else isNon (.py d)))) := rfl
@[simp] theorem isW_bool {neg : Bool} : isW neg (.py (.bool p)) (.py (.bool q)) G = some (.py (.bool (if neg then !decide (p = q) else decide (p = q)))) := rfl
@[simp] theorem isNon_none : isNon (.py .none) = true := rfl
@[simp] theorem isNon_int : isNon (.py (.int i)) = false := rfl
@[simp] theorem isNon_bool : isNon (.py (.bool p)) = false := rfl
@[simp] theorem isNon_str : isNon (.py (.str x)) = false := rfl
@[simp] theorem isNon_list : isNon (.py (.list ds)) = false := rfl
@[simp] theorem isNon_tuple : isNon (.py (.tuple ds)) = false := rfl
@[simp] theorem truW_none : truW (.py .none) G = some false := rfl
@[simp] theorem truW_bool : truW (.py (.bool p)) G = some p := rfl
@[simp] theorem truW_int : truW (.py (.int i)) G = some (i != 0) := rfl
@[simp] theorem truW_tuple : truW (.py (.tuple ds)) G = some (!ds.isEmpty) := rfl
@[simp] theorem truW_list : truW (.py (.list ds)) G = some (!ds.isEmpty) := rfl
@[simp] theorem ixW_tup : ixW (.py (.tuple ds)) (.py (.int i)) G = (atI ds i).map W.py := rfl
@[simp] theorem ixW_lst : ixW (.py (.list ds)) (.py (.int i)) G = (atI ds i).map W.py := rfl
@[simp] theorem ixW_brw : ixW (.brw ds) (.py (.int i)) G = (atI ds i).map W.py := rfl
@[simp] theorem ixW_obj : ixW (.obj n) (.py (.int i)) G = (match G[n]? with | some (.lst ds) => (atI ds i).map W.py | none => none) := by
  show (match lstOf (.obj n) G with | some ds => (atI ds i).map W.py | none => none) = _
  have e : lstOf (.obj n) G = (match G[n]? with | some (.lst ds) => some ds | none => none) := rfl
  rw [e]
  cases G[n]? with
  | none => rfl
  | some o => cases o; rfl
theorem atI_of {n : Nat} (h : i = (n : Int)) : atI ds i = ds[n]? := by
  subst h
  unfold atI ixN
  rw [if_pos (by omega)]
  by_cases h : n < ds.length
  · rw [if_pos (by omega)]
    simp
  · rw [if_neg (by omega), List.getElem?_eq_none (by omega)]
    rfl
@[simp] theorem atI_0 : atI (d :: ds) 0 = some d := (atI_of (n := 0) rfl).trans rfl
@[simp] theorem atI_1 : atI (d :: e :: ds) 1 = some e := (atI_of (n := 1) rfl).trans rfl
@[simp] theorem atI_2 {d2 : PD} : atI (d :: e :: d2 :: ds) 2 = some d2 := (atI_of (n := 2) rfl).trans rfl
@[simp] theorem atI_3 {d2 d3 : PD} : atI (d :: e :: d2 :: d3 :: ds) 3 = some d3 := (atI_of (n := 3) rfl).trans rfl
@[simp] theorem atI_4 {d2 d3 d4 : PD} : atI (d :: e :: d2 :: d3 :: d4 :: ds) 4 = some d4 := (atI_of (n := 4) rfl).trans rfl
@[simp] theorem sliceW_tup {lo hi : Option Int} : sliceW (.py (.tuple ds)) lo hi G = some (.py (.tuple (cutP ds lo hi))) := rfl
@[simp] theorem sliceW_lst {lo hi : Option Int} : sliceW (.py (.list ds)) lo hi G = some (.py (.list (cutP ds lo hi))) := rfl
@[simp] theorem sliceW_scr {lo hi : Option Int} : sliceW (.scr ds) lo hi G = some (.py (.list (cutP ds lo hi))) := rfl
@[simp] theorem lenF_tup : lenF [.py (.tuple ds)] G = some (.py (.int ds.length)) := rfl
@[simp] theorem lenF_lst : lenF [.py (.list ds)] G = some (.py (.int ds.length)) := rfl
@[simp] theorem lenF_brw : lenF [.brw ds] G = some (.py (.int ds.length)) := rfl
@[simp] theorem lenF_scr : lenF [.scr ds] G = some (.py (.int ds.length)) := rfl
@[simp] theorem absF_int : absF [.py (.int i)] G = some (.py (.int (if i < 0 then -i else i))) := rfl
@[simp] theorem max2F_int : max2F [.py (.int i), .py (.int j)] G = some (.py (.int (if j > i then j else i))) := rfl
@[simp] theorem min2F_int : min2F [.py (.int i), .py (.int j)] G = some (.py (.int (if j < i then j else i))) := rfl
@[simp] theorem intF_int : intF [.py (.int i)] G = some (.py (.int i)) := rfl
@[simp] theorem intF_bool : intF [.py (.bool b)] G = some (.py (.int (if b then 1 else 0))) := rfl
@[simp] theorem tupleF_lst : tupleF [.py (.list ds)] G = some (.py (.tuple ds)) := rfl
@[simp] theorem tupleF_tup : tupleF [.py (.tuple ds)] G = some (.py (.tuple ds)) := rfl
@[simp] theorem listF_lst : listF [.py (.list ds)] G = some (.py (.list ds)) := rfl
@[simp] theorem listF_tup : listF [.py (.tuple ds)] G = some (.py (.list ds)) := rfl
@[simp] theorem sumF_lst : sumF [.py (.list ds)] G = (intsOf ds).map fun ns => .py (.int ns.sum) := rfl
@[simp] theorem allF_lst : allF [.py (.list ds)] G = (boolsOf ds).map fun ns => .py (.bool (ns.all id)) := rfl
@[simp] theorem anyF_lst : anyF [.py (.list ds)] G = (boolsOf ds).map fun ns => .py (.bool (ns.any id)) := rfl
@[simp] theorem minF_lst : minF [.py (.list ds)] G = ((intsOf ds).bind minI).map fun n => .py (.int n) := rfl
@[simp] theorem maxF_lst : maxF [.py (.list ds)] G = ((intsOf ds).bind maxI).map fun n => .py (.int n) := rfl
theorem intsOf_map' (f : α → Int) (xs : List α) : intsOf (xs.map fun x => PyData.int (f x)) = some (xs.map f) := by
  have := intsOf_map (xs.map f)
  rw [List.map_map] at this
  exact this
theorem boolsOf_map' (f : α → Bool) (xs : List α) : boolsOf (xs.map fun x => PyData.bool (f x)) = some (xs.map f) := by
  have := boolsOf_map (xs.map f)
  rw [List.map_map] at this
  exact this
@[simp] theorem rng1_int : rng1 [.py (.int j)] = if endOk j = true then some (rangeP 0 1 j.toNat) else none := rfl
@[simp] theorem rng2_int : rng2 [.py (.int i), .py (.int j)] = if (endOk i && endOk j) = true then some (rangeP i 1 (j - i).toNat) else none := rfl
@[simp] theorem rng3_int {c : Int} : rng3 [.py (.int i), .py (.int j), .py (.int c)] = if (decide (c ≠ 0) && decide (c.natAbs < 1073741824) && Builtin.Range.small i j c) = true then some (rangeP i c (Builtin.Range.rangeSize i j c).toNat) else none := rfl
@[simp] theorem getIx_obj : getIx (.obj n) (.py (.int i)) G = (match G[n]? with | some (.lst ds) => atI ds i | none => none) := rfl
@[simp] theorem putIx_obj : putIx (.obj n) (.py (.int i)) (.py d) G = (match G[n]? with | some (.lst ds) => (ixN ds.length i).map fun j => G.set n (.lst (ds.set j d)) | none => none) := rfl
@[simp] theorem appendF_py : appendF ds [.py d] G = if ds.length < 16777216 then some (.py .none, ds ++ [d]) else none := rfl
@[simp] theorem extendF_lst : extendF ds [.py (.list es)] G = if ds.length + es.length ≤ 16777216 then some (.py .none, ds ++ es) else none := rfl
@[simp] theorem zipF_t : zipF [.py (.tuple ds), .py (.tuple es)] G = some (zipP ds es) := rfl
@[simp] theorem zipF_l : zipF [.py (.list ds), .py (.list es)] G = some (zipP ds es) := rfl
@[simp] theorem zipB_l : zipB [.py (.list ds), .py (.list es)] G = some (zipP ds es) := rfl
@[simp] theorem zipB_bl : zipB [.brw ds, .py (.list es)] G = some (zipP ds es) := rfl
@[simp] theorem zipS_l : zipS [.py (.list ds), .py (.list es)] G = some (zipP ds es) := rfl
@[simp] theorem tyN_none : tyN (.py .none) = some "NoneType" := rfl
@[simp] theorem tyN_bool : tyN (.py (.bool b)) = some "bool" := rfl
@[simp] theorem tyN_int : tyN (.py (.int i)) = some "int" := rfl
@[simp] theorem tyN_str : tyN (.py (.str x)) = some "str" := rfl
@[simp] theorem tyN_list : tyN (.py (.list ds)) = some "list" := rfl
@[simp] theorem tyN_tuple : tyN (.py (.tuple ds)) = some "tuple" := rfl
end
/-! ### comprehensions -/
theorem lcL_map {b : Bnd} {elt : Fm → M W} {ρ : Fm} {G : Sto} (F : PD → PD) : ∀ {ds : List PD}, (∀ d ∈ ds, ∃ ρ1, b (.py d) ρ = some ρ1 ∧ elt ρ1 G = .ok (.py (F d)) G) → lcL b dYes elt ρ ds G = .ok (ds.map F) G
  | [], _ => rfl
  | d :: ds, h => by
    obtain ⟨ρ1, h1, h2⟩ := h d List.mem_cons_self
    unfold lcL
    rw [h1]
    simp [h2, pyW, lcL_map F fun d hd => h d (List.mem_cons_of_mem _ hd)]
theorem lcL_filter {b : Bnd} {test : Fm → M Bool} {elt : Fm → M W} {ρ : Fm} {G : Sto} (T : PD → Bool) (F : PD → PD) : ∀ {ds : List PD}, (∀ d ∈ ds, ∃ ρ1, b (.py d) ρ = some ρ1 ∧ test ρ1 G = .ok (T d) G ∧ (T d = true → elt ρ1 G = .ok (.py (F d)) G)) →
    lcL b test elt ρ ds G = .ok ((ds.filter T).map F) G
  | [], _ => rfl
  | d :: ds, h => by
    obtain ⟨ρ1, h1, h2, h3⟩ := h d List.mem_cons_self
    have ih := lcL_filter T F fun d hd => h d (List.mem_cons_of_mem _ hd)
    unfold lcL
    rw [h1]
    cases ht : T d with
    | true => simp [h2, ht, h3 ht, pyW, ih]
    | false => simp [h2, ht, ih]
end DL

set_option maxHeartbeats 4000000
/-! BG: the drawing of inputs that all laws share: what it denotes, what it comes to. -/
namespace BG
open PySem PySem.Spec PyProof.Rows L2 DL
noncomputable def d_bag : MS := (sRet (dAlloc (dLst (dCons (dC (.int 0)) (dCons (dC (.int 1234567891)) (dCons (dC (.int 0)) (dCons (dFz (dLc (dSeqB (dSlice (dVar 0) dNo (dPart (dC (.int 63))))) [1] (bName 1) dYes (dBi absF (dCons (dVar 1) dNil)))) dNil)))))))
noncomputable def f_bag : List W → M W := fnD 2 d_bag
noncomputable def d_take : MS := (sSeq (sIf (dBol (dOp eqW (dOp ixW (dVar 0) (dC (.int 0))) (dC (.int 0))))
    (sSeq (sSet 2 (dOp ixW (dOp addW (dSlice (dOp ixW (dVar 0) (dC (.int 3))) (dPart (dOp ixW (dVar 0) (dC (.int 2)))) dNo) (dFz (dLst (dCons (dC (.int 0)) dNil)))) (dC (.int 0))))
    (sSeq (sAugPut addI (dVar 0) (dC (.int 2)) (dC (.int 1)))
    (sSeq (sIf (dBol (dOp geW (dVar 2) (dOp powW (dC (.int 10)) (dC (.int 18)))))
    (sPut (dVar 0) (dC (.int 0)) (dVar 2))
    sNil)
    (sSeq (sSet 3 (dOp addW (dOp addW (dOp (intsW mulI) (dOp ixW (dVar 0) (dC (.int 1))) (dC (.int 48271))) (dOp modW (dBi intF (dCons (dVar 2) dNil)) (dC (.int 2147483647)))) (dOp (intsW mulI) (dC (.int 7919)) (dOp ixW (dVar 0) (dC (.int 2))))))
    (sPut (dVar 0) (dC (.int 1)) (dOp modW (dBi intF (dCons (dVar 3) dNil)) (dC (.int 2147483647))))))))
    sNil)
    (sSeq (sIf (dBol (dOp gtW (dOp ixW (dVar 0) (dC (.int 0))) (dC (.int 0))))
    (sSeq (sSet 4 (dOp modW (dBi intF (dCons (dOp ixW (dVar 0) (dC (.int 0))) dNil)) (dVar 1)))
    (sSeq (sPut (dVar 0) (dC (.int 0)) (dOp fdivW (dBi intF (dCons (dOp ixW (dVar 0) (dC (.int 0))) dNil)) (dVar 1)))
    (sRetV 4)))
    sNil)
    (sSeq (sSet 5 (dOp modW (dBi intF (dCons (dOp (intsW mulI) (dOp addW (dOp ixW (dVar 0) (dC (.int 1))) (dC (.int 1))) (dC (.int 39373))) dNil)) (dC (.int 1000000007))))
    (sSeq (sSet 6 (dOp modW (dBi intF (dCons (dOp (intsW mulI) (dOp modW (dBi intF (dCons (dOp (intsW mulI) (dVar 5) (dVar 5)) dNil)) (dC (.int 998244353))) (dC (.int 30011))) dNil)) (dC (.int 998244353))))
    (sRet (dOp modW (dBi intF (dCons (dOp fdivW (dVar 6) (dC (.int 7))) dNil)) (dVar 1)))))))
noncomputable def f_take : List W → M W := fnD 7 d_take
noncomputable def d_some : MS := (sRet (dOp ixW (dVar 1) (dCall 2 f_take (dCons (dVar 0) (dCons (dBi lenF (dCons (dVar 1) dNil)) dNil)))))
noncomputable def f_some : List W → M W := fnD 2 d_some
noncomputable def c_same : Fm → M Bool := (dBol (dOp ltW (dVar 3) (dBi lenF (dCons (dVar 2) dNil))))
noncomputable def b_same : MS := (sSeq (sAsg (bTup 2 (bCons (bName 4) (bCons (bName 5) bNil))) (dOp ixW (dVar 2) (dVar 3)))
    (sSeq (sAug 3 addI (dC (.int 1)))
    (sSeq (sIf (dOrT (dBol (dOp neW (isaD ["bool"] (dVar 4)) (isaD ["bool"] (dVar 5)))) (dBol (dOp neW (isaD ["str"] (dVar 4)) (isaD ["str"] (dVar 5)))))
    (sRet (dC (.bool false)))
    sNil)
    (sSeq (sIf (dBol (dOp neW (isaD ["tuple", "list"] (dVar 4)) (isaD ["tuple", "list"] (dVar 5))))
    (sRet (dC (.bool false)))
    sNil)
    (sIf (dTest (isaD ["tuple", "list"] (dVar 4)))
    (sSeq (sIf (dOrT (dBol (dOp neW (isaD ["tuple"] (dVar 4)) (isaD ["tuple"] (dVar 5)))) (dBol (dOp neW (dBi lenF (dCons (dVar 4) dNil)) (dBi lenF (dCons (dVar 5) dNil)))))
    (sRet (dC (.bool false)))
    sNil)
    (sOwnM 2 extendF (dCons (dLZ (dCons (dVar 4) (dCons (dVar 5) dNil))) dNil)))
    (sIf (dBol (dOp neW (dVar 4) (dVar 5)))
    (sRet (dC (.bool false)))
    sNil))))))
noncomputable def d_same : MS := sSeq (sParF 2 3 (dLst (dCons (dTup (dCons (dVar 0) (dCons (dVar 1) dNil))) dNil)) (dC (.int 0))) (sSeq (sWhile c_same b_same) (sRet (dC (.bool true))))
noncomputable def f_same : List W → M W := fnD 6 d_same
/-- the bag: the first object of the store -/
structure Bag (G : Sto) (rest : Sto) : Prop where
  ex : ∃ (b0 b1 b2 : Int) (ns : List Int), G = .lst [.int b0, .int b1, .int b2, .list (ns.map PyData.int)] :: rest ∧ 0 ≤ b0 ∧ 0 ≤ b1 ∧ b1 < 2147483647 ∧ 0 ≤ b2 ∧ (∀ n ∈ ns, 0 ≤ n) ∧ ns.length ≤ 63
theorem cut_ints (ns : List Int) (lo hi : Option Int) : ∃ ms : List Int, cutP (ns.map PyData.int) lo hi = ms.map PyData.int ∧ (∀ m ∈ ms, m ∈ ns) ∧ ms.length ≤ ns.length := by
  unfold cutP
  rw [← List.map_drop, ← List.map_take]
  refine ⟨_, rfl, fun m hm => List.mem_of_mem_drop (List.mem_of_mem_take hm), ?_⟩
  rw [List.length_take, List.length_drop]
  omega
/-- a cell of the script, or 0 -/
theorem cell_at (ns : List Int) (b2 : Int) (hn : ∀ n ∈ ns, 0 ≤ n) (hl : ns.length ≤ 63) : ∃ c : Int, 0 ≤ c ∧ (cutP (ns.map PyData.int) (some b2) none).length + 1 ≤ 16777216 ∧ atI (cutP (ns.map PyData.int) (some b2) none ++ [PyData.int 0]) 0 = some (.int c) := by
  obtain ⟨ms, e, h1, h2⟩ := cut_ints ns (some b2) none
  rw [e]
  cases ms with
  | nil => exact ⟨0, Int.le_refl _, by simp, by simp⟩
  | cons m ms => exact ⟨m, hn m (h1 m List.mem_cons_self), by rw [List.length_map]; simp only [List.length_cons] at h2 ⊢; omega, by simp⟩
theorem mulOk_7 (x : Int) : mulOk 7919 x = true := mulOk_l (by decide) (by decide)
theorem bag_ok (ns : List Int) (h : ns.length ≤ 63) : ∃ G', f_bag [.scr (ns.map PyData.int)] [] = .ok (.obj 0) G' ∧ Bag G' [] := by
  obtain ⟨ms, e, h1, h2⟩ := cut_ints ns none (some 63)
  have hl : lcL (bName 1) dYes (dBi absF (dCons (dVar 1) dNil)) [.val (.scr (ns.map PyData.int)), .none] (ms.map PyData.int) [] = .ok ((ms.map PyData.int).map fun d => match d with | .int i => .int (if i < 0 then -i else i) | d => d) [] := by
    refine lcL_map _ fun d hd => ?_
    obtain ⟨m, _, rfl⟩ := List.mem_map.mp hd
    exact ⟨_, rfl, by simp⟩
  refine ⟨[.lst [.int 0, .int 1234567891, .int 0, .list (ms.map fun i => PyData.int (if i < 0 then -i else i))]], ?_, ⟨0, 1234567891, 0, ms.map fun i => if i < 0 then -i else i, by rw [List.map_map]; rfl, by decide, by decide, by decide, by decide, fun n hn => ?_, by rw [List.length_map]; omega⟩⟩
  · simp [f_bag, d_bag, e, show ms.length ≤ 16777216 by omega, hl]
  · obtain ⟨i, _, rfl⟩ := List.mem_map.mp hn
    split <;> omega
/-- a draw -/
theorem take_ok {G rest : Sto} {many : Int} (hb : Bag G rest) (h1 : 0 < many) (h2 : many < 1000000000000000000000000) : ∃ r G', f_take [.obj 0, .py (.int many)] G = .ok (.py (.int r)) G' ∧ Bag G' rest ∧ 0 ≤ r ∧ r < many := by
  obtain ⟨b0, b1, b2, ns, rfl, p0, p1, p2, p3, p4, p5⟩ := hb
  obtain ⟨c, c0, c1, c2⟩ := cell_at ns b2 p4 p5
  have hp : powOk 10 18 = true := by decide
  have m1 : mulI b1 48271 = some (.int (b1 * 48271)) := mulI_ok (mulOk_r (by decide) (by decide))
  have m2 : ∀ x, mulI 7919 x = some (.int (7919 * x)) := fun x => mulI_ok (mulOk_l (by decide) (by decide))
  have m3 : ∀ x, mulI x 39373 = some (.int (x * 39373)) := fun x => mulI_ok (mulOk_r (by decide) (by decide))
  have m4 : ∀ x, mulI x 30011 = some (.int (x * 30011)) := fun x => mulI_ok (mulOk_r (by decide) (by decide))
  have m5 : ∀ x : Int, mulI (x % 1000000007) (x % 1000000007) = some (.int (x % 1000000007 * (x % 1000000007))) := fun x => mulI_ok (mulOk_r (by omega) (by omega))
  have d1 : divOk many = true := divOk_of h1 h2
  have d7 : divOk 7 = true := by decide
  have x0 : ixN 4 0 = some 0 := rfl
  have x1 : ixN 4 1 = some 1 := rfl
  have x2 : ixN 4 2 = some 2 := rfl
  -- behind the first part, where no cell is left over
  have fin : ∀ (y : Int), 0 ≤ y % many ∧ y % many < many := fun y => ⟨Int.emod_nonneg _ (by omega), Int.emod_lt_of_pos _ h1⟩
  by_cases hz : b0 = 0
  · subst hz
    by_cases hc : c < 1000000000000000000
    · refine ⟨_, _, ?_, ⟨0, (b1 * 48271 + c % 2147483647 + 7919 * (b2 + 1)) % 2147483647, b2 + 1, ns, rfl, by omega, by omega, by omega, by omega, p4, p5⟩, (fin (((((((b1 * 48271 + c % 2147483647 + 7919 * (b2 + 1)) % 2147483647 + 1) * 39373) % 1000000007) * ((((b1 * 48271 + c % 2147483647 + 7919 * (b2 + 1)) % 2147483647 + 1) * 39373) % 1000000007)) % 998244353 * 30011) % 998244353 / 7)).1, (fin _).2⟩
      simp [f_take, d_take, c1, c2, hp, m1, m2, m3, m4, m5, d1, d7, x0, x1, x2, h1, show ¬ (1000000000000000000 : Int) ≤ c by omega]
    · refine ⟨_, _, ?_, ⟨c / many, (b1 * 48271 + c % 2147483647 + 7919 * (b2 + 1)) % 2147483647, b2 + 1, ns, rfl, Int.ediv_nonneg c0 (by omega), by omega, by omega, by omega, p4, p5⟩, (fin c).1, (fin c).2⟩
      simp [f_take, d_take, c1, c2, hp, m1, m2, m3, m4, m5, d1, d7, x0, x1, x2, h1, show (1000000000000000000 : Int) ≤ c by omega, show (0 : Int) < c by omega]
  · refine ⟨_, _, ?_, ⟨b0 / many, b1, b2, ns, rfl, Int.ediv_nonneg p0 (by omega), by omega, by omega, by omega, p4, p5⟩, (fin b0).1, (fin b0).2⟩
    simp [f_take, d_take, hz, d1, x0, x1, x2, h1, show (0 : Int) < b0 by omega]
theorem some_ok {G rest : Sto} {ds : List PD} (hb : Bag G rest) (h1 : 0 < ds.length) (h2 : ds.length < 1000000000) : ∃ d G', f_some [.obj 0, .py (.list ds)] G = .ok (.py d) G' ∧ Bag G' rest ∧ d ∈ ds := by
  obtain ⟨r, G', e, hb', q1, q2⟩ := take_ok hb (many := ds.length) (by omega) (by omega)
  have e2 : atI ds r = some (ds[r.toNat]'(by omega)) := by
    rw [atI_of (n := r.toNat) (by omega), List.getElem?_eq_getElem]
  exact ⟨ds[r.toNat]'(by omega), G', by simp [f_some, d_some, e, e2], hb', List.getElem_mem _⟩
theorem some_okT {G rest : Sto} {ds : List PD} (hb : Bag G rest) (h1 : 0 < ds.length) (h2 : ds.length < 1000000000) : ∃ d G', f_some [.obj 0, .py (.tuple ds)] G = .ok (.py d) G' ∧ Bag G' rest ∧ d ∈ ds := by
  obtain ⟨r, G', e, hb', q1, q2⟩ := take_ok hb (many := ds.length) (by omega) (by omega)
  have e2 : atI ds r = some (ds[r.toNat]'(by omega)) := by
    rw [atI_of (n := r.toNat) (by omega), List.getElem?_eq_getElem]
  exact ⟨ds[r.toNat]'(by omega), G', by simp [f_some, d_some, e, e2], hb', List.getElem_mem _⟩
/-- no dict within -/
def noDict : PD → Bool
  | .list ds => noDicts ds
  | .tuple ds => noDicts ds
  | .dict _ => false
  | _ => true
where noDicts : List PD → Bool
  | [] => true
  | d :: ds => noDict d && noDicts ds
def sz : PD → Nat
  | .list ds => 1 + szs ds
  | .tuple ds => 1 + szs ds
  | _ => 1
where szs : List PD → Nat
  | [] => 0
  | d :: ds => sz d + szs ds
def kids : PD → List PD
  | .list ds => ds
  | .tuple ds => ds
  | _ => []
def pr (d : PD) : PD := .tuple [d, d]
theorem zipP_self : ∀ ds : List PD, zipP ds ds = ds.map pr
  | [] => rfl
  | d :: ds => by
    have := zipP_self ds
    unfold zipP at this ⊢
    simp only [List.zip_cons_cons, List.map_cons]
    rw [this]
    rfl
theorem szs_app : ∀ xs ys : List PD, sz.szs (xs ++ ys) = sz.szs xs + sz.szs ys
  | [], ys => by simp [sz.szs]
  | x :: xs, ys => by simp only [List.cons_append, sz.szs, szs_app xs ys]; omega
theorem sz_pos (d : PD) : 1 ≤ sz d := by cases d <;> simp [sz] <;> omega
theorem szs_len : ∀ xs : List PD, xs.length ≤ sz.szs xs
  | [] => by simp
  | x :: xs => by have := szs_len xs; have := sz_pos x; simp only [List.length_cons, sz.szs]; omega
theorem sz_kids (d : PD) : sz.szs (kids d) + 1 ≤ sz d := by cases d <;> simp [sz, kids, sz.szs] <;> omega
theorem nd_app : ∀ xs ys : List PD, noDict.noDicts (xs ++ ys) = (noDict.noDicts xs && noDict.noDicts ys)
  | [], ys => by simp [noDict.noDicts]
  | x :: xs, ys => by simp [noDict.noDicts, nd_app xs ys, Bool.and_assoc]
theorem nd_kids {d : PD} (h : noDict d = true) : noDict.noDicts (kids d) = true := by
  cases d <;> simp_all [noDict, kids, noDict.noDicts]
theorem ne_self {d : PD} {G : Sto} (h : kids d = []) (hd : noDict d = true) (hl : ∀ ds, d ≠ .list ds) (ht : ∀ ds, d ≠ .tuple ds) : neW (.py d) (.py d) G = some (.py (.bool false)) := by
  cases d with
  | none => unfold neW; rw [datW_py, depth_none, if_pos (by omega)]; simp [PyData.eqv]
  | bool b => simp
  | int i => simp
  | str x => unfold neW; rw [datW_py, depth_str, if_pos (by omega)]; simp [PyData.eqv]
  | list ds => exact (hl ds rfl).elim
  | tuple ds => exact (ht ds rfl).elim
  | dict ds => simp [noDict] at hd
/-- one turn -/
theorem same_turn {f d x : PD} {G : Sto} {ps : List PD} {k : Nat} {s4 s5 : Slot} (hk : ps[k]? = some x) (hx : noDict x = true) (hz : ps.length + (kids x).length ≤ 16777216) :
    b_same [.val (.py f), .val (.py d), .own (ps.map pr), .val (.py (.int k)), s4, s5] G = .nx [.val (.py f), .val (.py d), .own ((ps ++ kids x).map pr), .val (.py (.int ((k + 1 : Nat) : Int))), .val (.py x), .val (.py x)] G := by
  have e1 : atI (ps.map pr) (k : Int) = some (pr x) := by rw [atI_of rfl, List.getElem?_map, hk]; rfl
  cases x with
  | none => simp [b_same, e1, pr, kids, isaN, ne_self (d := .none) rfl rfl (by simp) (by simp)]
  | bool b => simp [b_same, e1, pr, kids, isaN]
  | int i => simp [b_same, e1, pr, kids, isaN]
  | str z => simp [b_same, e1, pr, kids, isaN, ne_self (d := .str z) rfl rfl (by simp) (by simp)]
  | list ds => simp [b_same, e1, pr, kids, isaN, zipP_self, show ps.length + ds.length ≤ 16777216 from hz]
  | tuple ds => simp [b_same, e1, pr, kids, isaN, zipP_self, show ps.length + ds.length ≤ 16777216 from hz]
  | dict ds => simp [noDict] at hx
theorem same_loop {f d : PD} {G : Sto} : ∀ (n : Nat) (ps : List PD) (k : Nat) (s4 s5 : Slot), sz.szs (ps.drop k) ≤ n → k ≤ ps.length → noDict.noDicts (ps.drop k) = true → k + sz.szs (ps.drop k) ≤ 16777216 →
    ∃ m ρ, whL c_same b_same m [.val (.py f), .val (.py d), .own (ps.map pr), .val (.py (.int k)), s4, s5] G = .nx ρ G := by
  intro n
  induction n with
  | zero =>
    intro ps k s4 s5 h1 h2 h3 h4
    have hl := szs_len (ps.drop k)
    rw [List.length_drop] at hl
    refine ⟨1, [.val (.py f), .val (.py d), .own (ps.map pr), .val (.py (.int k)), s4, s5], ?_⟩
    unfold whL
    simp [c_same, show ¬ (k < ps.length) by omega]
  | succ n ih =>
    intro ps k s4 s5 h1 h2 h3 h4
    by_cases hk : k < ps.length
    · have e := List.drop_eq_getElem_cons hk
      rw [e] at h1 h3 h4
      simp only [sz.szs, noDict.noDicts, Bool.and_eq_true] at h1 h3 h4
      have sk := sz_kids ps[k]
      have hd : (ps ++ kids ps[k]).drop (k + 1) = ps.drop (k + 1) ++ kids ps[k] := by
        rw [List.drop_append_of_le_length (by omega)]
      have hl := szs_len (ps.drop (k + 1))
      have hl2 := szs_len (kids ps[k])
      rw [List.length_drop] at hl
      obtain ⟨m, ρ, hm⟩ := ih (ps ++ kids ps[k]) (k + 1) (.val (.py ps[k])) (.val (.py ps[k])) (by rw [hd, szs_app]; omega) (by rw [List.length_append]; omega) (by rw [hd, nd_app, h3.2, nd_kids h3.1]; rfl) (by rw [hd, szs_app]; omega)
      refine ⟨m + 1, ρ, ?_⟩
      unfold whL
      have hc : c_same [.val (.py f), .val (.py d), .own (ps.map pr), .val (.py (.int k)), s4, s5] G = .ok true G := by simp [c_same, hk]
      rw [hc, exS_ok_, if_pos rfl, same_turn (List.getElem?_eq_getElem hk) h3.1 (by omega)]
      exact hm
    · refine ⟨1, [.val (.py f), .val (.py d), .own (ps.map pr), .val (.py (.int k)), s4, s5], ?_⟩
      unfold whL
      simp [c_same, hk]
/-- a thing is the same as itself -/
theorem same_ok {d : PD} {G : Sto} (h : noDict d = true) (hz : sz d ≤ 16000000) : f_same [.py d, .py d] G = .ok (.py (.bool true)) G := by
  obtain ⟨m, ρ, hm⟩ := same_loop (f := d) (d := d) (G := G) (sz d) [d] 0 .none .none (by simp [sz.szs]) (by simp) (by simp [noDict.noDicts, h]) (by simp [sz.szs]; omega)
  have hw := sWhile_eq m hm (by simp)
  simp [f_same, d_same]
  have e : sWhile c_same b_same [.val (.py d), .val (.py d), .own [.tuple [d, d]], .val (.py (.int 0)), .none, .none] G = .nx ρ G := hw
  rw [e]
end BG

namespace Lk65
open PySem PySem.Spec PyProof.Rows L2 DL

/-! ### the text -/
def topS (i : Nat) : Stmt := PySem.Challenge.pw_nosplitpays_k65_whole_cards_compared_for.main.body.getD i (.Pass ⟨0, 0, 0, 0⟩)
abbrev s_has_all : Stmt := topS 1
abbrev N_has_all : List Str := ["zones", "some", "zone"]
theorem sc_has_all : FnScope N_has_all ["zones", "some"] (defScope s_has_all) := ⟨rfl, rfl, rfl, by decide +kernel, rfl, by decide +kernel, by decide +kernel⟩
abbrev s_holds : Stmt := topS 2
abbrev N_holds : List Str := ["one", "ride"]
theorem sc_holds : FnScope N_holds ["one", "ride"] (defScope s_holds) := ⟨rfl, rfl, rfl, by decide +kernel, rfl, by decide +kernel, by decide +kernel⟩
abbrev s_prices_of_lots : Stmt := topS 4
abbrev N_prices_of_lots : List Str := ["passes", "found", "zones", "price", "cost"]
theorem sc_prices_of_lots : FnScope N_prices_of_lots ["passes"] (defScope s_prices_of_lots) := ⟨rfl, rfl, rfl, by decide +kernel, rfl, by decide +kernel, by decide +kernel⟩
abbrev s_hits_of : Stmt := topS 5
abbrev N_hits_of : List Str := ["passes", "ride", "found", "one", "told", "hit"]
theorem sc_hits_of : FnScope N_hits_of ["passes", "ride"] (defScope s_hits_of) := ⟨rfl, rfl, rfl, by decide +kernel, rfl, by decide +kernel, by decide +kernel⟩
abbrev s_with_ride : Stmt := topS 6
abbrev N_with_ride : List Str := ["costs", "passes", "ride", "cost", "hit"]
theorem sc_with_ride : FnScope N_with_ride ["costs", "passes", "ride"] (defScope s_with_ride) := ⟨rfl, rfl, rfl, by decide +kernel, rfl, by decide +kernel, by decide +kernel⟩
abbrev s_costs_of_lots : Stmt := topS 7
abbrev N_costs_of_lots : List Str := ["passes", "rides", "found", "ride"]
theorem sc_costs_of_lots : FnScope N_costs_of_lots ["passes", "rides"] (defScope s_costs_of_lots) := ⟨rfl, rfl, rfl, by decide +kernel, rfl, by decide +kernel, by decide +kernel⟩
abbrev s_best_price : Stmt := topS 8
abbrev N_best_price : List Str := ["passes", "rides"]
theorem sc_best_price : FnScope N_best_price ["passes", "rides"] (defScope s_best_price) := ⟨rfl, rfl, rfl, by decide +kernel, rfl, by decide +kernel, by decide +kernel⟩
abbrev s_least_above : Stmt := topS 12
abbrev N_least_above : List Str := ["over", "under"]
theorem sc_least_above : FnScope N_least_above ["over", "under"] (defScope s_least_above) := ⟨rfl, rfl, rfl, by decide +kernel, rfl, by decide +kernel, by decide +kernel⟩
abbrev s_reduced : Stmt := topS 13
abbrev N_reduced : List Str := ["card", "fare", "cents", "percent", "step"]
theorem sc_reduced : FnScope N_reduced ["card", "fare"] (defScope s_reduced) := ⟨rfl, rfl, rfl, by decide +kernel, rfl, by decide +kernel, by decide +kernel⟩
abbrev s_reduced_rides : Stmt := topS 14
abbrev N_reduced_rides : List Str := ["card", "rides", "zones", "fare"]
theorem sc_reduced_rides : FnScope N_reduced_rides ["card", "rides"] (defScope s_reduced_rides) := ⟨rfl, rfl, rfl, by decide +kernel, rfl, by decide +kernel, by decide +kernel⟩
abbrev s_paid_with : Stmt := topS 15
abbrev N_paid_with : List Str := ["passes", "card", "rides"]
theorem sc_paid_with : FnScope N_paid_with ["passes", "card", "rides"] (defScope s_paid_with) := ⟨rfl, rfl, rfl, by decide +kernel, rfl, by decide +kernel, by decide +kernel⟩
abbrev s_common_steps : Stmt := topS 16
abbrev N_common_steps : List Str := ["one", "other", "many"]
theorem sc_common_steps : FnScope N_common_steps ["one", "other"] (defScope s_common_steps) := ⟨rfl, rfl, rfl, by decide +kernel, rfl, by decide +kernel, by decide +kernel⟩
abbrev s_first_dearer_fare : Stmt := topS 17
abbrev N_first_dearer_fare : List Str := ["card", "other", "most", "fare"]
theorem sc_first_dearer_fare : FnScope N_first_dearer_fare ["card", "other"] (defScope s_first_dearer_fare) := ⟨rfl, rfl, rfl, by decide +kernel, rfl, by decide +kernel, by decide +kernel⟩
abbrev s_first_worse : Stmt := topS 18
abbrev N_first_worse : List Str := ["card", "other", "fare", "more"]
theorem sc_first_worse : FnScope N_first_worse ["card", "other"] (defScope s_first_worse) := ⟨rfl, rfl, rfl, by decide +kernel, rfl, by decide +kernel, by decide +kernel⟩
abbrev s_is_never_worse : Stmt := topS 19
abbrev N_is_never_worse : List Str := ["card", "other"]
theorem sc_is_never_worse : FnScope N_is_never_worse ["card", "other"] (defScope s_is_never_worse) := ⟨rfl, rfl, rfl, by decide +kernel, rfl, by decide +kernel, by decide +kernel⟩
abbrev s__law_bag : Stmt := topS 21
abbrev N__law_bag : List Str := ["script", "cell"]
theorem sc__law_bag : FnScope N__law_bag ["script"] (defScope s__law_bag) := ⟨rfl, rfl, rfl, by decide +kernel, rfl, by decide +kernel, by decide +kernel⟩
abbrev s__law_take : Stmt := topS 22
abbrev N__law_take : List Str := ["bag", "many", "cell", "stirred", "value", "begin", "second"]
theorem sc__law_take : FnScope N__law_take ["bag", "many"] (defScope s__law_take) := ⟨rfl, rfl, rfl, by decide +kernel, rfl, by decide +kernel, by decide +kernel⟩
abbrev s__law_some : Stmt := topS 23
abbrev N__law_some : List Str := ["bag", "things"]
theorem sc__law_some : FnScope N__law_some ["bag", "things"] (defScope s__law_some) := ⟨rfl, rfl, rfl, by decide +kernel, rfl, by decide +kernel, by decide +kernel⟩
abbrev s__law_same : Stmt := topS 24
abbrev N__law_same : List Str := ["found", "due", "pairs", "at", "one", "other"]
theorem sc__law_same : FnScope N__law_same ["found", "due"] (defScope s__law_same) := ⟨rfl, rfl, rfl, by decide +kernel, rfl, by decide +kernel, by decide +kernel⟩
abbrev s__law_reduced : Stmt := topS 25
abbrev N__law_reduced : List Str := ["card", "fare"]
theorem sc__law_reduced : FnScope N__law_reduced ["card", "fare"] (defScope s__law_reduced) := ⟨rfl, rfl, rfl, by decide +kernel, rfl, by decide +kernel, by decide +kernel⟩
abbrev s__law_pair : Stmt := topS 26
abbrev N__law_pair : List Str := ["bag", "card", "way", "other"]
theorem sc__law_pair : FnScope N__law_pair ["bag"] (defScope s__law_pair) := ⟨rfl, rfl, rfl, by decide +kernel, rfl, by decide +kernel, by decide +kernel⟩
abbrev s__law_common : Stmt := topS 27
abbrev N__law_common : List Str := ["one", "other", "found", "lap"]
theorem sc__law_common : FnScope N__law_common ["one", "other"] (defScope s__law_common) := ⟨rfl, rfl, rfl, by decide +kernel, rfl, by decide +kernel, by decide +kernel⟩
abbrev s_law : Stmt := topS 28
abbrev N_law : List Str := ["script", "bag", "turn", "card", "other", "top", "worse", "fare", "rules", "never", "told", "more", "many", "sums", "lap", "rides", "one", "ride", "zones"]
theorem sc_law : FnScope N_law ["script"] (defScope s_law) := ⟨rfl, rfl, rfl, by decide +kernel, rfl, by decide +kernel, by decide +kernel⟩
/-! ### what the defs denote -/
noncomputable def d_has_all : MS := (sRet (dBi allF (dCons (dFz (dLc (dSeqB (dVar 1)) [2] (bName 2) dYes (dOp (inP false) (dVar 2) (dVar 0)))) dNil)))
noncomputable def f_has_all : List W → M W := fnD 3 d_has_all
noncomputable def d_holds : MS := (sRet (dCall 2 f_has_all (dCons (dOp ixW (dVar 0) (dC (.int 0))) (dCons (dOp ixW (dVar 1) (dC (.int 0))) dNil))))
noncomputable def f_holds : List W → M W := fnD 2 d_holds
noncomputable def d_prices_of_lots_1 : MS := (sSet 1 (dOp addW (dVar 1) (dFz (dLc (dSeqB (dVar 1)) [4] (bName 4) dYes (dOp addW (dVar 4) (dVar 3))))))
noncomputable def d_prices_of_lots : MS := (sSeq (sSet 1 (dFz (dLst (dCons (dC (.int 0)) dNil))))
    (sSeq (sFor (dSeqS (dVar 0)) (bTup 2 (bCons (bName 2) (bCons (bName 3) bNil))) d_prices_of_lots_1)
    (sRetV 1)))
noncomputable def f_prices_of_lots : List W → M W := fnD 5 d_prices_of_lots
noncomputable def d_hits_of_1 : MS := (sSeq (sSet 4 (dCall 2 f_holds (dCons (dVar 3) (dCons (dVar 1) dNil))))
    (sSet 2 (dOp addW (dVar 2) (dFz (dLc (dSeqB (dVar 2)) [5] (bName 5) dYes (dOr (dVar 5) (dVar 4)))))))
noncomputable def d_hits_of : MS := (sSeq (sSet 2 (dFz (dLst (dCons (dC (.bool false)) dNil))))
    (sSeq (sFor (dSeqS (dVar 0)) (bName 3) d_hits_of_1)
    (sRetV 2)))
noncomputable def f_hits_of : List W → M W := fnD 6 d_hits_of
noncomputable def d_with_ride : MS := (sRet (dFz (dLc (dZip zipB (dCons (dVar 0) (dCons (dCall 2 f_hits_of (dCons (dVar 1) (dCons (dVar 2) dNil))) dNil))) [3, 4] (bTup 2 (bCons (bName 3) (bCons (bName 4) bNil))) dYes (dIfE (dTest (dVar 4)) (dVar 3) (dOp addW (dVar 3) (dOp ixW (dVar 2) (dC (.int 1))))))))
noncomputable def f_with_ride : List W → M W := fnD 5 d_with_ride
noncomputable def d_costs_of_lots_1 : MS := (sSet 2 (dCall 3 f_with_ride (dCons (dVar 2) (dCons (dVar 0) (dCons (dVar 3) dNil)))))
noncomputable def d_costs_of_lots : MS := (sSeq (sSet 2 (dCall 1 f_prices_of_lots (dCons (dVar 0) dNil)))
    (sSeq (sFor (dSeqS (dVar 1)) (bName 3) d_costs_of_lots_1)
    (sRetV 2)))
noncomputable def f_costs_of_lots : List W → M W := fnD 4 d_costs_of_lots
noncomputable def d_best_price : MS := (sRet (dBi minF (dCons (dCall 2 f_costs_of_lots (dCons (dVar 0) (dCons (dVar 1) dNil))) dNil)))
noncomputable def f_best_price : List W → M W := fnD 2 d_best_price
noncomputable def d_least_above : MS := (sRet (dUn negW (dOp fdivW (dUn negW (dVar 0)) (dVar 1))))
noncomputable def f_least_above : List W → M W := fnD 2 d_least_above
noncomputable def d_reduced : MS := (sSeq (sAsg (bTup 3 (bCons (bName 2) (bCons (bName 3) (bCons (bName 4) bNil)))) (dVar 0))
    (sRet (dOp (intsW mulI) (dVar 4) (dCall 2 f_least_above (dCons (dOp (intsW mulI) (dVar 1) (dOp subW (dC (.int 100)) (dVar 3))) (dCons (dOp (intsW mulI) (dC (.int 100)) (dVar 4)) dNil))))))
noncomputable def f_reduced : List W → M W := fnD 5 d_reduced
noncomputable def d_reduced_rides : MS := (sRet (dBi tupleF (dCons (dFz (dLc (dSeqB (dVar 1)) [2, 3] (bTup 2 (bCons (bName 2) (bCons (bName 3) bNil))) dYes (dTup (dCons (dVar 2) (dCons (dCall 2 f_reduced (dCons (dVar 0) (dCons (dVar 3) dNil))) dNil))))) dNil)))
noncomputable def f_reduced_rides : List W → M W := fnD 4 d_reduced_rides
noncomputable def d_paid_with : MS := (sRet (dOp addW (dOp ixW (dVar 1) (dC (.int 0))) (dCall 2 f_best_price (dCons (dVar 0) (dCons (dCall 2 f_reduced_rides (dCons (dVar 1) (dCons (dVar 2) dNil))) dNil)))))
noncomputable def f_paid_with : List W → M W := fnD 3 d_paid_with
noncomputable def d_common_steps : MS := (sRet (dOp ixW (dFz (dLc (dRng rng3 (dCons (dVar 0) (dCons (dOp addW (dOp (intsW mulI) (dVar 0) (dVar 1)) (dC (.int 1))) (dCons (dVar 0) dNil)))) [2] (bName 2) (dBol (dOp eqW (dOp modW (dVar 2) (dVar 1)) (dC (.int 0)))) (dVar 2))) (dC (.int 0))))
noncomputable def f_common_steps : List W → M W := fnD 3 d_common_steps
noncomputable def d_first_dearer_fare_1 : MS := (sIf (dBol (dOp gtW (dCall 2 f_reduced (dCons (dVar 0) (dCons (dVar 3) dNil))) (dCall 2 f_reduced (dCons (dVar 1) (dCons (dVar 3) dNil)))))
    (sRetV 3)
    sNil)
noncomputable def d_first_dearer_fare : MS := (sSeq (sSet 2 (dBi max2F (dCons (dC (.int 2001)) (dCons (dOp (intsW mulI) (dC (.int 100)) (dCall 2 f_common_steps (dCons (dOp ixW (dVar 0) (dC (.int 2))) (dCons (dOp ixW (dVar 1) (dC (.int 2))) dNil)))) dNil))))
    (sSeq (sFor (dRng rng2 (dCons (dC (.int 1)) (dCons (dOp addW (dVar 2) (dC (.int 1))) dNil))) (bName 3) d_first_dearer_fare_1)
    (sRet (dC .none))))
noncomputable def f_first_dearer_fare : List W → M W := fnD 4 d_first_dearer_fare
noncomputable def d_first_worse : MS := (sSeq (sIf (dBol (dOp gtW (dOp ixW (dVar 0) (dC (.int 0))) (dOp ixW (dVar 1) (dC (.int 0)))))
    (sRet (dTup (dCons (dC (.int 0)) (dCons (dC (.int 0)) dNil))))
    sNil)
    (sSeq (sSet 2 (dCall 2 f_first_dearer_fare (dCons (dVar 0) (dCons (dVar 1) dNil))))
    (sSeq (sIf (dBol (dOp (isW false) (dVar 2) (dC .none)))
    (sRet (dC .none))
    sNil)
    (sSeq (sSet 3 (dOp subW (dCall 2 f_reduced (dCons (dVar 0) (dCons (dVar 2) dNil))) (dCall 2 f_reduced (dCons (dVar 1) (dCons (dVar 2) dNil)))))
    (sRet (dTup (dCons (dVar 2) (dCons (dOp addW (dOp fdivW (dOp subW (dOp ixW (dVar 1) (dC (.int 0))) (dOp ixW (dVar 0) (dC (.int 0)))) (dVar 3)) (dC (.int 1))) dNil))))))))
noncomputable def f_first_worse : List W → M W := fnD 4 d_first_worse
noncomputable def d_is_never_worse : MS := (sRet (dOp (isW false) (dCall 2 f_first_worse (dCons (dVar 0) (dCons (dVar 1) dNil))) (dC .none)))
noncomputable def f_is_never_worse : List W → M W := fnD 2 d_is_never_worse
noncomputable def d__law_bag : MS := (sRet (dAlloc (dLst (dCons (dC (.int 0)) (dCons (dC (.int 1234567891)) (dCons (dC (.int 0)) (dCons (dFz (dLc (dSeqB (dSlice (dVar 0) dNo (dPart (dC (.int 63))))) [1] (bName 1) dYes (dBi absF (dCons (dVar 1) dNil)))) dNil)))))))
noncomputable def f__law_bag : List W → M W := fnD 2 d__law_bag
noncomputable def d__law_take : MS := (sSeq (sIf (dBol (dOp eqW (dOp ixW (dVar 0) (dC (.int 0))) (dC (.int 0))))
    (sSeq (sSet 2 (dOp ixW (dOp addW (dSlice (dOp ixW (dVar 0) (dC (.int 3))) (dPart (dOp ixW (dVar 0) (dC (.int 2)))) dNo) (dFz (dLst (dCons (dC (.int 0)) dNil)))) (dC (.int 0))))
    (sSeq (sAugPut addI (dVar 0) (dC (.int 2)) (dC (.int 1)))
    (sSeq (sIf (dBol (dOp geW (dVar 2) (dOp powW (dC (.int 10)) (dC (.int 18)))))
    (sPut (dVar 0) (dC (.int 0)) (dVar 2))
    sNil)
    (sSeq (sSet 3 (dOp addW (dOp addW (dOp (intsW mulI) (dOp ixW (dVar 0) (dC (.int 1))) (dC (.int 48271))) (dOp modW (dBi intF (dCons (dVar 2) dNil)) (dC (.int 2147483647)))) (dOp (intsW mulI) (dC (.int 7919)) (dOp ixW (dVar 0) (dC (.int 2))))))
    (sPut (dVar 0) (dC (.int 1)) (dOp modW (dBi intF (dCons (dVar 3) dNil)) (dC (.int 2147483647))))))))
    sNil)
    (sSeq (sIf (dBol (dOp gtW (dOp ixW (dVar 0) (dC (.int 0))) (dC (.int 0))))
    (sSeq (sSet 4 (dOp modW (dBi intF (dCons (dOp ixW (dVar 0) (dC (.int 0))) dNil)) (dVar 1)))
    (sSeq (sPut (dVar 0) (dC (.int 0)) (dOp fdivW (dBi intF (dCons (dOp ixW (dVar 0) (dC (.int 0))) dNil)) (dVar 1)))
    (sRetV 4)))
    sNil)
    (sSeq (sSet 5 (dOp modW (dBi intF (dCons (dOp (intsW mulI) (dOp addW (dOp ixW (dVar 0) (dC (.int 1))) (dC (.int 1))) (dC (.int 39373))) dNil)) (dC (.int 1000000007))))
    (sSeq (sSet 6 (dOp modW (dBi intF (dCons (dOp (intsW mulI) (dOp modW (dBi intF (dCons (dOp (intsW mulI) (dVar 5) (dVar 5)) dNil)) (dC (.int 998244353))) (dC (.int 30011))) dNil)) (dC (.int 998244353))))
    (sRet (dOp modW (dBi intF (dCons (dOp fdivW (dVar 6) (dC (.int 7))) dNil)) (dVar 1)))))))
noncomputable def f__law_take : List W → M W := fnD 7 d__law_take
noncomputable def d__law_some : MS := (sRet (dOp ixW (dVar 1) (dCall 2 f__law_take (dCons (dVar 0) (dCons (dBi lenF (dCons (dVar 1) dNil)) dNil)))))
noncomputable def f__law_some : List W → M W := fnD 2 d__law_some
noncomputable def d__law_same_1 : MS := (sSeq (sAsg (bTup 2 (bCons (bName 4) (bCons (bName 5) bNil))) (dOp ixW (dVar 2) (dVar 3)))
    (sSeq (sAug 3 addI (dC (.int 1)))
    (sSeq (sIf (dOrT (dBol (dOp neW (isaD ["bool"] (dVar 4)) (isaD ["bool"] (dVar 5)))) (dBol (dOp neW (isaD ["str"] (dVar 4)) (isaD ["str"] (dVar 5)))))
    (sRet (dC (.bool false)))
    sNil)
    (sSeq (sIf (dBol (dOp neW (isaD ["tuple", "list"] (dVar 4)) (isaD ["tuple", "list"] (dVar 5))))
    (sRet (dC (.bool false)))
    sNil)
    (sIf (dTest (isaD ["tuple", "list"] (dVar 4)))
    (sSeq (sIf (dOrT (dBol (dOp neW (isaD ["tuple"] (dVar 4)) (isaD ["tuple"] (dVar 5)))) (dBol (dOp neW (dBi lenF (dCons (dVar 4) dNil)) (dBi lenF (dCons (dVar 5) dNil)))))
    (sRet (dC (.bool false)))
    sNil)
    (sOwnM 2 extendF (dCons (dLZ (dCons (dVar 4) (dCons (dVar 5) dNil))) dNil)))
    (sIf (dBol (dOp neW (dVar 4) (dVar 5)))
    (sRet (dC (.bool false)))
    sNil))))))
noncomputable def d__law_same : MS := (sSeq (sParF 2 3 (dLst (dCons (dTup (dCons (dVar 0) (dCons (dVar 1) dNil))) dNil)) (dC (.int 0)))
    (sSeq (sWhile (dBol (dOp ltW (dVar 3) (dBi lenF (dCons (dVar 2) dNil)))) d__law_same_1)
    (sRet (dC (.bool true)))))
noncomputable def f__law_same : List W → M W := fnD 6 d__law_same
noncomputable def d__law_reduced : MS := (sRet (dOp (intsW mulI) (dUn negW (dOp fdivW (dOp subW (dC (.int 0)) (dOp (intsW mulI) (dVar 1) (dOp subW (dC (.int 100)) (dOp ixW (dVar 0) (dC (.int 1)))))) (dOp (intsW mulI) (dC (.int 100)) (dOp ixW (dVar 0) (dC (.int 2)))))) (dOp ixW (dVar 0) (dC (.int 2)))))
noncomputable def f__law_reduced : List W → M W := fnD 2 d__law_reduced
noncomputable def d__law_pair : MS := (sSeq (sSet 1 (dTup (dCons (dCall 2 f__law_some (dCons (dVar 0) (dCons (dFz (dLst (dCons (dC (.int 0)) (dCons (dC (.int 100)) (dCons (dC (.int 500)) dNil))))) dNil))) (dCons (dOp addW (dC (.int 1)) (dCall 2 f__law_take (dCons (dVar 0) (dCons (dC (.int 99)) dNil)))) (dCons (dOp addW (dC (.int 1)) (dCall 2 f__law_take (dCons (dVar 0) (dCons (dC (.int 20)) dNil)))) dNil)))))
    (sSeq (sPar 2 3 (dCons (dCall 2 f__law_take (dCons (dVar 0) (dCons (dC (.int 5)) dNil))) (dCons (dVar 1) dNil)))
    (sSeq (sIf (dBol (dOp eqW (dVar 2) (dC (.int 0))))
    (sSet 3 (dTup (dCons (dCall 2 f__law_some (dCons (dVar 0) (dCons (dFz (dLst (dCons (dC (.int 0)) (dCons (dC (.int 100)) (dCons (dC (.int 500)) (dCons (dC (.int 501)) dNil)))))) dNil))) (dCons (dOp ixW (dVar 1) (dC (.int 1))) (dCons (dOp ixW (dVar 1) (dC (.int 2))) dNil)))))
    (sIf (dBol (dOp eqW (dVar 2) (dC (.int 1))))
    (sSet 3 (dTup (dCons (dOp ixW (dVar 1) (dC (.int 0))) (dCons (dBi max2F (dCons (dC (.int 1)) (dCons (dBi min2F (dCons (dC (.int 99)) (dCons (dOp addW (dOp ixW (dVar 1) (dC (.int 1))) (dCall 2 f__law_some (dCons (dVar 0) (dCons (dFz (dLst (dCons (dC (.int 1)) (dCons (dUn negW (dC (.int 1))) (dCons (dC (.int 10)) dNil))))) dNil)))) dNil))) dNil))) (dCons (dOp ixW (dVar 1) (dC (.int 2))) dNil)))))
    (sIf (dBol (dOp eqW (dVar 2) (dC (.int 2))))
    (sSet 3 (dTup (dCons (dOp ixW (dVar 1) (dC (.int 0))) (dCons (dOp ixW (dVar 1) (dC (.int 1))) (dCons (dOp addW (dC (.int 1)) (dCall 2 f__law_take (dCons (dVar 0) (dCons (dC (.int 20)) dNil)))) dNil)))))
    (sIf (dBol (dOp eqW (dVar 2) (dC (.int 3))))
    (sSet 3 (dTup (dCons (dOp addW (dOp ixW (dVar 1) (dC (.int 0))) (dCall 2 f__law_take (dCons (dVar 0) (dCons (dC (.int 50)) dNil)))) (dCons (dOp addW (dC (.int 1)) (dCall 2 f__law_take (dCons (dVar 0) (dCons (dC (.int 99)) dNil)))) (dCons (dOp addW (dC (.int 1)) (dCall 2 f__law_take (dCons (dVar 0) (dCons (dC (.int 20)) dNil)))) dNil)))))
    sNil))))
    (sRet (dIfE (dBol (dOp eqW (dCall 2 f__law_take (dCons (dVar 0) (dCons (dC (.int 2)) dNil))) (dC (.int 0)))) (dTup (dCons (dVar 1) (dCons (dVar 3) dNil))) (dTup (dCons (dVar 3) (dCons (dVar 1) dNil))))))))
noncomputable def f__law_pair : List W → M W := fnD 4 d__law_pair
noncomputable def d__law_common_1 : MS := (sAug 2 addI (dIfE (dBol (dOp neW (dOp modW (dBi intF (dCons (dVar 2) dNil)) (dVar 1)) (dC (.int 0)))) (dVar 0) (dC (.int 0))))
noncomputable def d__law_common : MS := (sSeq (sSet 2 (dVar 0))
    (sSeq (sFor (dRng rng1 (dCons (dC (.int 20)) dNil)) (bName 3) d__law_common_1)
    (sRetV 2)))
noncomputable def f__law_common : List W → M W := fnD 4 d__law_common
noncomputable def d_law_1 : MS := (sSeq (sSet 5 (dCall 2 f__law_some (dCons (dVar 1) (dCons (dFz (dLst (dCons (dC (.int 9)) (dCons (dC (.int 300)) (dCons (dC (.int 100000)) dNil))))) dNil))))
    (sSeq (sSet 15 (dBi tupleF (dCons (dFz (dLc (dRng rng1 (dCons (dCall 2 f__law_take (dCons (dVar 1) (dCons (dC (.int 30)) dNil))) dNil)) [17] (bName 17) dYes (dTup (dCons (dTup (dCons (dC (.int 1)) dNil)) (dCons (dCall 2 f__law_take (dCons (dVar 1) (dCons (dVar 5) dNil))) dNil))))) dNil)))
    (sSeq (sFzS 13 (sSetF 13 (dLc (dSeqB (dTup (dCons (dVar 3) (dCons (dVar 4) dNil)))) [16] (bName 16) dYes (dOp addW (dOp ixW (dVar 16) (dC (.int 0))) (dBi sumF (dCons (dFz (dLc (dSeqB (dVar 15)) [18, 7] (bTup 2 (bCons (bName 18) (bCons (bName 7) bNil))) dYes (dCall 2 f__law_reduced (dCons (dVar 16) (dCons (dVar 7) dNil))))) dNil))))))
    (sSeq (sIf (dNotT (dTest (dCall 2 f__law_same (dCons (dFz (dLst (dCons (dCall 3 f_paid_with (dCons (dTup dNil) (dCons (dVar 3) (dCons (dVar 15) dNil)))) (dCons (dCall 3 f_paid_with (dCons (dTup dNil) (dCons (dVar 4) (dCons (dVar 15) dNil)))) dNil)))) (dCons (dVar 13) dNil)))))
    (sRet (dC (.bool false)))
    sNil)
    (sIf (dAndT (dTest (dVar 9)) (dBol (dOp gtW (dOp ixW (dVar 13) (dC (.int 0))) (dOp ixW (dVar 13) (dC (.int 1))))))
    (sRet (dC (.bool false)))
    sNil)))))
noncomputable def d_law_2 : MS := (sIf (dBol (dOp gtW (dCall 2 f__law_reduced (dCons (dVar 3) (dCons (dVar 7) dNil))) (dCall 2 f__law_reduced (dCons (dVar 4) (dCons (dVar 7) dNil)))))
    (sSeq (sSet 6 (dVar 7))
    sBreak)
    sNil)
noncomputable def d_law_3 : MS := (sSeq (sAsg (bTup 2 (bCons (bName 3) (bCons (bName 4) bNil))) (dCall 1 f__law_pair (dCons (dVar 1) dNil)))
    (sSeq (sSet 5 (dOp (intsW mulI) (dC (.int 100)) (dCall 2 f__law_common (dCons (dOp ixW (dVar 3) (dC (.int 2))) (dCons (dOp ixW (dVar 4) (dC (.int 2))) dNil)))))
    (sSeq (sSet 6 (dC .none))
    (sSeq (sFor (dRng rng2 (dCons (dC (.int 1)) (dCons (dOp addW (dBi max2F (dCons (dVar 5) (dCons (dC (.int 2000)) dNil))) (dC (.int 1))) dNil))) (bName 7) d_law_2)
    (sSeq (sSet 8 (dAnd (dOp leW (dOp ixW (dVar 3) (dC (.int 0))) (dOp ixW (dVar 4) (dC (.int 0)))) (dAnd (dOp geW (dOp ixW (dVar 3) (dC (.int 1))) (dOp ixW (dVar 4) (dC (.int 1)))) (dOr (dOp (isW false) (dVar 6) (dC .none)) (dOp gtW (dVar 6) (dVar 5))))))
    (sSeq (sSet 9 (dAnd (dOp leW (dOp ixW (dVar 3) (dC (.int 0))) (dOp ixW (dVar 4) (dC (.int 0)))) (dOp (isW false) (dVar 6) (dC .none))))
    (sSeq (sIf (dBol (dOp neW (dVar 8) (dVar 9)))
    (sRet (dC (.bool false)))
    sNil)
    (sSeq (sSet 10 (dCall 2 f_first_worse (dCons (dVar 3) (dCons (dVar 4) dNil))))
    (sSeq (sIf (dOrT (dNotT (dTest (dCall 2 f__law_same (dCons (dCall 2 f_is_never_worse (dCons (dVar 3) (dCons (dVar 4) dNil))) (dCons (dVar 9) dNil))))) (dBol (dOp neW (dOp (isW false) (dVar 10) (dC .none)) (dVar 9))))
    (sRet (dC (.bool false)))
    sNil)
    (sSeq (sIf (dBol (dOp gtW (dOp ixW (dVar 3) (dC (.int 0))) (dOp ixW (dVar 4) (dC (.int 0)))))
    (sIf (dBol (dOp neW (dVar 10) (dTup (dCons (dC (.int 0)) (dCons (dC (.int 0)) dNil)))))
    (sRet (dC (.bool false)))
    sNil)
    (sIf (dBol (dOp (isW true) (dVar 6) (dC .none)))
    (sSeq (sSet 11 (dOp subW (dCall 2 f__law_reduced (dCons (dVar 3) (dCons (dVar 6) dNil))) (dCall 2 f__law_reduced (dCons (dVar 4) (dCons (dVar 6) dNil)))))
    (sSeq (sSet 12 (dOp addW (dOp fdivW (dOp subW (dOp ixW (dVar 4) (dC (.int 0))) (dOp ixW (dVar 3) (dC (.int 0)))) (dVar 11)) (dC (.int 1))))
    (sSeq (sIf (dNotT (dTest (dCall 2 f__law_same (dCons (dVar 10) (dCons (dTup (dCons (dVar 6) (dCons (dVar 12) dNil))) dNil)))))
    (sRet (dC (.bool false)))
    sNil)
    (sSeq (sFzS 13 (sSetF 13 (dLc (dSeqB (dTup (dCons (dVar 3) (dCons (dVar 4) dNil)))) [16] (bName 16) dYes (dOp addW (dOp ixW (dVar 16) (dC (.int 0))) (dOp (intsW mulI) (dVar 12) (dCall 2 f_reduced (dCons (dVar 16) (dCons (dVar 6) dNil))))))))
    (sIf (dOrT (dBol (dOp leW (dOp ixW (dVar 13) (dC (.int 0))) (dOp ixW (dVar 13) (dC (.int 1))))) (dBol (dOp gtW (dOp subW (dOp ixW (dVar 13) (dC (.int 0))) (dVar 11)) (dOp ixW (dVar 13) (dC (.int 1))))))
    (sRet (dC (.bool false)))
    sNil)))))
    sNil))
    (sSeq (sIf (dBol (dOp (isW true) (dCall 2 f_is_never_worse (dCons (dVar 3) (dCons (dVar 3) dNil))) (dC (.bool true))))
    (sRet (dC (.bool false)))
    sNil)
    (sFor (dRng rng1 (dCons (dC (.int 5)) dNil)) (bName 14) d_law_1))))))))))))
noncomputable def d_law : MS := (sSeq (sSet 1 (dCall 1 f__law_bag (dCons (dVar 0) dNil)))
    (sSeq (sFor (dRng rng1 (dCons (dC (.int 5)) dNil)) (bName 2) d_law_3)
    (sRet (dC (.bool true)))))
noncomputable def f_law : List W → M W := fnD 19 d_law
/-! ### the built-in names -/
structure ZZ (mg : Str → Option Value) : Prop where
  z_all : mg "all" = none
  z_zip : mg "zip" = none
  z_min : mg "min" = none
  z_tuple : mg "tuple" = none
  z_range : mg "range" = none
  z_max : mg "max" = none
  z_abs : mg "abs" = none
  z_int : mg "int" = none
  z_len : mg "len" = none
  z_isinstance : mg "isinstance" = none
  z_bool : mg "bool" = none
  z_str : mg "str" = none
  z_list : mg "list" = none
  z_sum : mg "sum" = none
section
variable {P : Program} {w : World} {K : PySem.W.Frag} {mg : Str → Option Value} {base : Heap}
theorem ok_has_all {f : Addr} {fd : FuncData} (F : Fun K "has_all" "has_all" s_has_all f fd) (Z : ZZ mg) : FnOk P w K mg base CX0 1 f fd ["zones", "some"] (spD ⟨P, w, K⟩ 2 f_has_all) :=
  fn_mk F sc_has_all rfl rfl fun cdv A outer s H E hr => (mss_one (ms_ret (me_bi (cr_all rfl) lift_all Z.z_all (ma_cons (me_fz (mf_lc (own := [("zone", 2)]) rfl sc_has_all.nd (mi_seq (me_var 1)) (blkOk_by (N := N_has_all) (sc := (defScope s_has_all)) (by decide +kernel)) (fun _ _ _ _ _ => (mg_name 2 sc_has_all.nd)) (fun _ _ _ _ _ => mts_nil) (fun _ _ _ _ _ => (me_cmp (op_inP hr.units) lift_inP (me_var 2) (me_var 0) (by first | exact nomark _ | rfl))) (by decide))) ma_nil))))
theorem ok_holds {f : Addr} {fd : FuncData} (F : Fun K "holds" "holds" s_holds f fd) (Z : ZZ mg) (h_has_all : FnHas P w K mg base 1 "has_all" ["zones", "some"] (spD ⟨P, w, K⟩ 2 f_has_all)) : FnOk P w K mg base CX0 2 f fd ["one", "ride"] (spD ⟨P, w, K⟩ 2 f_holds) :=
  fn_mk F sc_holds rfl rfl fun cdv A outer s H E hr => (mss_one (ms_ret (me_callH h_has_all (by decide) hr (ma_cons (me_ix (me_var 0) me_int) (ma_cons (me_ix (me_var 1) me_int) ma_nil)))))
theorem ok_prices_of_lots {f : Addr} {fd : FuncData} (F : Fun K "prices_of_lots" "prices_of_lots" s_prices_of_lots f fd) (Z : ZZ mg) : FnOk P w K mg base CX0 1 f fd ["passes"] (spD ⟨P, w, K⟩ 1 f_prices_of_lots) :=
  fn_mk F sc_prices_of_lots rfl rfl fun cdv A outer s H E hr => (mss_cons (ms_set 1 sc_prices_of_lots.nd (me_fz (mf_lst (ma_cons me_int ma_nil))))
    (mss_cons (ms_for PassesOwn.never rfl (mis_seq (me_var 0)) (mg_tup rfl (mgs_cons (mg_name 2 sc_prices_of_lots.nd) (mgs_cons (mg_name 3 sc_prices_of_lots.nd) mgs_nil)))
    (mss_one (ms_set 1 sc_prices_of_lots.nd (me_op op_addW lift_add (me_var 1) (me_fz (mf_lc (own := [("cost", 4)]) rfl sc_prices_of_lots.nd (mi_seq (me_var 1)) (blkOk_by (N := N_prices_of_lots) (sc := (defScope s_prices_of_lots)) (by decide +kernel)) (fun _ _ _ _ _ => (mg_name 4 sc_prices_of_lots.nd)) (fun _ _ _ _ _ => mts_nil) (fun _ _ _ _ _ => (me_op op_addW lift_add (me_var 4) (me_var 3))) (by decide)))))))
    (mss_one (ms_retV 1))))
theorem ok_hits_of {f : Addr} {fd : FuncData} (F : Fun K "hits_of" "hits_of" s_hits_of f fd) (Z : ZZ mg) (h_holds : FnHas P w K mg base 2 "holds" ["one", "ride"] (spD ⟨P, w, K⟩ 2 f_holds)) : FnOk P w K mg base CX0 3 f fd ["passes", "ride"] (spD ⟨P, w, K⟩ 2 f_hits_of) :=
  fn_mk F sc_hits_of rfl rfl fun cdv A outer s H E hr => (mss_cons (ms_set 2 sc_hits_of.nd (me_fz (mf_lst (ma_cons me_bl ma_nil))))
    (mss_cons (ms_for PassesOwn.never rfl (mis_seq (me_var 0)) (mg_name 3 sc_hits_of.nd)
    (mss_cons (ms_set 4 sc_hits_of.nd (me_callH h_holds (by decide) hr (ma_cons (me_var 3) (ma_cons (me_var 1) ma_nil))))
    (mss_one (ms_set 2 sc_hits_of.nd (me_op op_addW lift_add (me_var 2) (me_fz (mf_lc (own := [("hit", 5)]) rfl sc_hits_of.nd (mi_seq (me_var 2)) (blkOk_by (N := N_hits_of) (sc := (defScope s_hits_of)) (by decide +kernel)) (fun _ _ _ _ _ => (mg_name 5 sc_hits_of.nd)) (fun _ _ _ _ _ => mts_nil) (fun _ _ _ _ _ => (me_or (me_var 5) (me_one (me_var 4)))) (by decide))))))))
    (mss_one (ms_retV 2))))
theorem ok_with_ride {f : Addr} {fd : FuncData} (F : Fun K "with_ride" "with_ride" s_with_ride f fd) (Z : ZZ mg) (h_hits_of : FnHas P w K mg base 3 "hits_of" ["passes", "ride"] (spD ⟨P, w, K⟩ 2 f_hits_of)) : FnOk P w K mg base CX0 4 f fd ["costs", "passes", "ride"] (spD ⟨P, w, K⟩ 3 f_with_ride) :=
  fn_mk F sc_with_ride rfl rfl fun cdv A outer s H E hr => (mss_one (ms_ret (me_fz (mf_lc (own := [("cost", 3), ("hit", 4)]) rfl sc_with_ride.nd (mi_zip Z.z_zip (ma_cons (me_var 0) (ma_cons (me_callH h_hits_of (by decide) hr (ma_cons (me_var 1) (ma_cons (me_var 2) ma_nil))) ma_nil))) (blkOk_by (N := N_with_ride) (sc := (defScope s_with_ride)) (by decide +kernel)) (fun _ _ _ _ _ => (mg_tup rfl (mgs_cons (mg_name 3 sc_with_ride.nd) (mgs_cons (mg_name 4 sc_with_ride.nd) mgs_nil)))) (fun _ _ _ _ _ => mts_nil) (fun _ _ _ _ _ => (me_if (mt_truth (me_var 4)) (me_var 3) (me_op op_addW lift_add (me_var 3) (me_ix (me_var 2) me_int)))) (by decide)))))
theorem ok_costs_of_lots {f : Addr} {fd : FuncData} (F : Fun K "costs_of_lots" "costs_of_lots" s_costs_of_lots f fd) (Z : ZZ mg) (h_prices_of_lots : FnHas P w K mg base 1 "prices_of_lots" ["passes"] (spD ⟨P, w, K⟩ 1 f_prices_of_lots)) (h_with_ride : FnHas P w K mg base 4 "with_ride" ["costs", "passes", "ride"] (spD ⟨P, w, K⟩ 3 f_with_ride)) : FnOk P w K mg base CX0 5 f fd ["passes", "rides"] (spD ⟨P, w, K⟩ 2 f_costs_of_lots) :=
  fn_mk F sc_costs_of_lots rfl rfl fun cdv A outer s H E hr => (mss_cons (ms_set 2 sc_costs_of_lots.nd (me_callH h_prices_of_lots (by decide) hr (ma_cons (me_var 0) ma_nil)))
    (mss_cons (ms_for PassesOwn.never rfl (mis_seq (me_var 1)) (mg_name 3 sc_costs_of_lots.nd)
    (mss_one (ms_set 2 sc_costs_of_lots.nd (me_callH h_with_ride (by decide) hr (ma_cons (me_var 2) (ma_cons (me_var 0) (ma_cons (me_var 3) ma_nil)))))))
    (mss_one (ms_retV 2))))
theorem ok_best_price {f : Addr} {fd : FuncData} (F : Fun K "best_price" "best_price" s_best_price f fd) (Z : ZZ mg) (h_costs_of_lots : FnHas P w K mg base 5 "costs_of_lots" ["passes", "rides"] (spD ⟨P, w, K⟩ 2 f_costs_of_lots)) : FnOk P w K mg base CX0 6 f fd ["passes", "rides"] (spD ⟨P, w, K⟩ 2 f_best_price) :=
  fn_mk F sc_best_price rfl rfl fun cdv A outer s H E hr => (mss_one (ms_ret (me_bi (cr_min rfl) lift_min Z.z_min (ma_cons (me_callH h_costs_of_lots (by decide) hr (ma_cons (me_var 0) (ma_cons (me_var 1) ma_nil))) ma_nil))))
theorem ok_least_above {f : Addr} {fd : FuncData} (F : Fun K "least_above" "least_above" s_least_above f fd) (Z : ZZ mg) : FnOk P w K mg base CX0 1 f fd ["over", "under"] (spD ⟨P, w, K⟩ 2 f_least_above) :=
  fn_mk F sc_least_above rfl rfl fun cdv A outer s H E hr => (mss_one (ms_ret (me_un un_neg lift_neg (me_op op_fdivW lift_fdiv (me_un un_neg lift_neg (me_var 0)) (me_var 1)))))
theorem ok_reduced {f : Addr} {fd : FuncData} (F : Fun K "reduced" "reduced" s_reduced f fd) (Z : ZZ mg) (g_WHOLE : ∃ t, mg "WHOLE" = some (.int 100 t)) (h_least_above : FnHas P w K mg base 1 "least_above" ["over", "under"] (spD ⟨P, w, K⟩ 2 f_least_above)) : FnOk P w K mg base CX0 2 f fd ["card", "fare"] (spD ⟨P, w, K⟩ 2 f_reduced) :=
  fn_mk F sc_reduced rfl rfl fun cdv A outer s H E hr => (mss_cons (ms_asg (me_var 0) (mg_tup rfl (mgs_cons (mg_name 2 sc_reduced.nd) (mgs_cons (mg_name 3 sc_reduced.nd) (mgs_cons (mg_name 4 sc_reduced.nd) mgs_nil)))))
    (mss_one (ms_ret (me_op op_mulB lift_mulI (me_var 4) (me_callH h_least_above (by decide) hr (ma_cons (me_op op_mulB lift_mulI (me_var 1) (me_op op_sub lift_sub (me_gint g_WHOLE) (me_var 3))) (ma_cons (me_op op_mulB lift_mulI (me_gint g_WHOLE) (me_var 4)) ma_nil)))))))
theorem ok_reduced_rides {f : Addr} {fd : FuncData} (F : Fun K "reduced_rides" "reduced_rides" s_reduced_rides f fd) (Z : ZZ mg) (h_reduced : FnHas P w K mg base 2 "reduced" ["card", "fare"] (spD ⟨P, w, K⟩ 2 f_reduced)) : FnOk P w K mg base CX0 3 f fd ["card", "rides"] (spD ⟨P, w, K⟩ 2 f_reduced_rides) :=
  fn_mk F sc_reduced_rides rfl rfl fun cdv A outer s H E hr => (mss_one (ms_ret (me_ty call_tuple_of lift_tuple Z.z_tuple (ma_cons (me_fz (mf_lc (own := [("zones", 2), ("fare", 3)]) rfl sc_reduced_rides.nd (mi_seq (me_var 1)) (blkOk_by (N := N_reduced_rides) (sc := (defScope s_reduced_rides)) (by decide +kernel)) (fun _ _ _ _ _ => (mg_tup rfl (mgs_cons (mg_name 2 sc_reduced_rides.nd) (mgs_cons (mg_name 3 sc_reduced_rides.nd) mgs_nil)))) (fun _ _ _ _ _ => mts_nil) (fun _ _ _ _ _ => (me_tup (ma_cons (me_var 2) (ma_cons (me_callH h_reduced (by decide) hr (ma_cons (me_var 0) (ma_cons (me_var 3) ma_nil))) ma_nil)))) (by decide))) ma_nil))))
theorem ok_paid_with {f : Addr} {fd : FuncData} (F : Fun K "paid_with" "paid_with" s_paid_with f fd) (Z : ZZ mg) (h_best_price : FnHas P w K mg base 6 "best_price" ["passes", "rides"] (spD ⟨P, w, K⟩ 2 f_best_price)) (h_reduced_rides : FnHas P w K mg base 3 "reduced_rides" ["card", "rides"] (spD ⟨P, w, K⟩ 2 f_reduced_rides)) : FnOk P w K mg base CX0 7 f fd ["passes", "card", "rides"] (spD ⟨P, w, K⟩ 3 f_paid_with) :=
  fn_mk F sc_paid_with rfl rfl fun cdv A outer s H E hr => (mss_one (ms_ret (me_op op_addW lift_add (me_ix (me_var 1) me_int) (me_callH h_best_price (by decide) hr (ma_cons (me_var 0) (ma_cons (me_callH h_reduced_rides (by decide) hr (ma_cons (me_var 1) (ma_cons (me_var 2) ma_nil))) ma_nil))))))
theorem ok_common_steps {f : Addr} {fd : FuncData} (F : Fun K "common_steps" "common_steps" s_common_steps f fd) (Z : ZZ mg) : FnOk P w K mg base CX0 1 f fd ["one", "other"] (spD ⟨P, w, K⟩ 2 f_common_steps) :=
  fn_mk F sc_common_steps rfl rfl fun cdv A outer s H E hr => (mss_one (ms_ret (me_ix (me_fz (mf_lc (own := [("many", 2)]) rfl sc_common_steps.nd (mi_of (mis_range3 Z.z_range (ma_cons (me_var 0) (ma_cons (me_op op_addW lift_add (me_op op_mulB lift_mulI (me_var 0) (me_var 1)) me_int) (ma_cons (me_var 0) ma_nil))))) (blkOk_by (N := N_common_steps) (sc := (defScope s_common_steps)) (by decide +kernel)) (fun _ _ _ _ _ => (mg_name 2 sc_common_steps.nd)) (fun _ _ _ _ _ => (mts_one (mt_cmp (op_eqW hr.units) lift_dat (me_op op_mod lift_mod (me_var 2) (me_var 1)) me_int (by first | exact nomark _ | rfl)))) (fun _ _ _ _ _ => (me_var 2)) (by decide))) me_int)))
theorem ok_first_dearer_fare {f : Addr} {fd : FuncData} (F : Fun K "first_dearer_fare" "first_dearer_fare" s_first_dearer_fare f fd) (Z : ZZ mg) (g_FAR : ∃ t, mg "FAR" = some (.int 2001 t)) (g_WHOLE : ∃ t, mg "WHOLE" = some (.int 100 t)) (h_common_steps : FnHas P w K mg base 1 "common_steps" ["one", "other"] (spD ⟨P, w, K⟩ 2 f_common_steps)) (h_reduced : FnHas P w K mg base 2 "reduced" ["card", "fare"] (spD ⟨P, w, K⟩ 2 f_reduced)) : FnOk P w K mg base CX0 3 f fd ["card", "other"] (spD ⟨P, w, K⟩ 2 f_first_dearer_fare) :=
  fn_mk F sc_first_dearer_fare rfl rfl fun cdv A outer s H E hr => (mss_cons (ms_set 2 sc_first_dearer_fare.nd (me_bi (call_max2 rfl) (lift_int2 (f := fun i j => if j > i then j else i)) Z.z_max (ma_cons (me_gint g_FAR) (ma_cons (me_op op_mulB lift_mulI (me_gint g_WHOLE) (me_callH h_common_steps (by decide) hr (ma_cons (me_ix (me_var 0) me_int) (ma_cons (me_ix (me_var 1) me_int) ma_nil)))) ma_nil))))
    (mss_cons (ms_for PassesOwn.never rfl (mis_range2 Z.z_range (ma_cons me_int (ma_cons (me_op op_addW lift_add (me_var 2) me_int) ma_nil))) (mg_name 3 sc_first_dearer_fare.nd)
    (mss_one (ms_if (mt_cmp (op_gtW hr.units) lift_dat (me_callH h_reduced (by decide) hr (ma_cons (me_var 0) (ma_cons (me_var 3) ma_nil))) (me_callH h_reduced (by decide) hr (ma_cons (me_var 1) (ma_cons (me_var 3) ma_nil))) (by first | exact nomark _ | rfl))
    (mss_one (ms_retV 3))
    mss_nil)))
    (mss_one (ms_ret me_non))))
theorem ok_first_worse {f : Addr} {fd : FuncData} (F : Fun K "first_worse" "first_worse" s_first_worse f fd) (Z : ZZ mg) (h_first_dearer_fare : FnHas P w K mg base 3 "first_dearer_fare" ["card", "other"] (spD ⟨P, w, K⟩ 2 f_first_dearer_fare)) (h_reduced : FnHas P w K mg base 2 "reduced" ["card", "fare"] (spD ⟨P, w, K⟩ 2 f_reduced)) : FnOk P w K mg base CX0 4 f fd ["card", "other"] (spD ⟨P, w, K⟩ 2 f_first_worse) :=
  fn_mk F sc_first_worse rfl rfl fun cdv A outer s H E hr => (mss_cons (ms_if (mt_cmp (op_gtW hr.units) lift_dat (me_ix (me_var 0) me_int) (me_ix (me_var 1) me_int) (by first | exact nomark _ | rfl))
    (mss_one (ms_ret (me_tup (ma_cons me_int (ma_cons me_int ma_nil)))))
    mss_nil)
    (mss_cons (ms_set 2 sc_first_worse.nd (me_callH h_first_dearer_fare (by decide) hr (ma_cons (me_var 0) (ma_cons (me_var 1) ma_nil))))
    (mss_cons (ms_if (mt_cmp op_isW lift_is (me_var 2) me_non (by first | exact nomark _ | rfl))
    (mss_one (ms_ret me_non))
    mss_nil)
    (mss_cons (ms_set 3 sc_first_worse.nd (me_op op_sub lift_sub (me_callH h_reduced (by decide) hr (ma_cons (me_var 0) (ma_cons (me_var 2) ma_nil))) (me_callH h_reduced (by decide) hr (ma_cons (me_var 1) (ma_cons (me_var 2) ma_nil)))))
    (mss_one (ms_ret (me_tup (ma_cons (me_var 2) (ma_cons (me_op op_addW lift_add (me_op op_fdivW lift_fdiv (me_op op_sub lift_sub (me_ix (me_var 1) me_int) (me_ix (me_var 0) me_int)) (me_var 3)) me_int) ma_nil)))))))))
theorem ok_is_never_worse {f : Addr} {fd : FuncData} (F : Fun K "is_never_worse" "is_never_worse" s_is_never_worse f fd) (Z : ZZ mg) (h_first_worse : FnHas P w K mg base 4 "first_worse" ["card", "other"] (spD ⟨P, w, K⟩ 2 f_first_worse)) : FnOk P w K mg base CX0 5 f fd ["card", "other"] (spD ⟨P, w, K⟩ 2 f_is_never_worse) :=
  fn_mk F sc_is_never_worse rfl rfl fun cdv A outer s H E hr => (mss_one (ms_ret (me_cmp op_isW lift_is (me_callH h_first_worse (by decide) hr (ma_cons (me_var 0) (ma_cons (me_var 1) ma_nil))) me_non (by first | exact nomark _ | rfl))))
theorem ok__law_bag {f : Addr} {fd : FuncData} (F : Fun K "_law_bag" "_law_bag" s__law_bag f fd) (Z : ZZ mg) : FnOk P w K mg base CX0 1 f fd ["script"] (spD ⟨P, w, K⟩ 1 f__law_bag) :=
  fn_mk F sc__law_bag rfl rfl fun cdv A outer s H E hr => (mss_one (ms_ret (me_alloc (mf_lst (ma_cons me_int (ma_cons me_int (ma_cons me_int (ma_cons (me_fz (mf_lc (own := [("cell", 1)]) rfl sc__law_bag.nd (mi_seq (me_slice (me_var 0) mo_no (mo_part me_int))) (blkOk_by (N := N__law_bag) (sc := (defScope s__law_bag)) (by decide +kernel)) (fun _ _ _ _ _ => (mg_name 1 sc__law_bag.nd)) (fun _ _ _ _ _ => mts_nil) (fun _ _ _ _ _ => (me_bi call_abs (lift_int1 (f := fun i => if i < 0 then -i else i)) Z.z_abs (ma_cons (me_var 1) ma_nil))) (by decide))) ma_nil))))))))
theorem ok__law_take {f : Addr} {fd : FuncData} (F : Fun K "_law_take" "_law_take" s__law_take f fd) (Z : ZZ mg) : FnOk P w K mg base CX0 1 f fd ["bag", "many"] (spD ⟨P, w, K⟩ 2 f__law_take) :=
  fn_mk F sc__law_take rfl rfl fun cdv A outer s H E hr => (mss_cons (ms_if (mt_cmp (op_eqW hr.units) lift_dat (me_ix (me_var 0) me_int) me_int (by first | exact nomark _ | rfl))
    (mss_cons (ms_set 2 sc__law_take.nd (me_ix (me_op op_addW lift_add (me_slice (me_ix (me_var 0) me_int) (mo_part (me_ix (me_var 0) me_int)) mo_no) (me_fz (mf_lst (ma_cons me_int ma_nil)))) me_int))
    (mss_cons (ms_augPut ip_add lift_ipI (me_var 0) me_int me_int)
    (mss_cons (ms_if (mt_cmp (op_geW hr.units) lift_dat (me_var 2) (me_op op_pow lift_pow me_int me_int) (by first | exact nomark _ | rfl))
    (mss_one (ms_put (me_var 2) (me_var 0) me_int))
    mss_nil)
    (mss_cons (ms_set 3 sc__law_take.nd (me_op op_addW lift_add (me_op op_addW lift_add (me_op op_mulB lift_mulI (me_ix (me_var 0) me_int) me_int) (me_op op_mod lift_mod (me_ty call_int1 lift_intF Z.z_int (ma_cons (me_var 2) ma_nil)) me_int)) (me_op op_mulB lift_mulI me_int (me_ix (me_var 0) me_int))))
    (mss_one (ms_put (me_op op_mod lift_mod (me_ty call_int1 lift_intF Z.z_int (ma_cons (me_var 3) ma_nil)) me_int) (me_var 0) me_int))))))
    mss_nil)
    (mss_cons (ms_if (mt_cmp (op_gtW hr.units) lift_dat (me_ix (me_var 0) me_int) me_int (by first | exact nomark _ | rfl))
    (mss_cons (ms_set 4 sc__law_take.nd (me_op op_mod lift_mod (me_ty call_int1 lift_intF Z.z_int (ma_cons (me_ix (me_var 0) me_int) ma_nil)) (me_var 1)))
    (mss_cons (ms_put (me_op op_fdivW lift_fdiv (me_ty call_int1 lift_intF Z.z_int (ma_cons (me_ix (me_var 0) me_int) ma_nil)) (me_var 1)) (me_var 0) me_int)
    (mss_one (ms_retV 4))))
    mss_nil)
    (mss_cons (ms_set 5 sc__law_take.nd (me_op op_mod lift_mod (me_ty call_int1 lift_intF Z.z_int (ma_cons (me_op op_mulB lift_mulI (me_op op_addW lift_add (me_ix (me_var 0) me_int) me_int) me_int) ma_nil)) me_int))
    (mss_cons (ms_set 6 sc__law_take.nd (me_op op_mod lift_mod (me_ty call_int1 lift_intF Z.z_int (ma_cons (me_op op_mulB lift_mulI (me_op op_mod lift_mod (me_ty call_int1 lift_intF Z.z_int (ma_cons (me_op op_mulB lift_mulI (me_var 5) (me_var 5)) ma_nil)) me_int) me_int) ma_nil)) me_int))
    (mss_one (ms_ret (me_op op_mod lift_mod (me_ty call_int1 lift_intF Z.z_int (ma_cons (me_op op_fdivW lift_fdiv (me_var 6) me_int) ma_nil)) (me_var 1))))))))
theorem ok__law_some {f : Addr} {fd : FuncData} (F : Fun K "_law_some" "_law_some" s__law_some f fd) (Z : ZZ mg) (h__law_take : FnHas P w K mg base 1 "_law_take" ["bag", "many"] (spD ⟨P, w, K⟩ 2 f__law_take)) : FnOk P w K mg base CX0 2 f fd ["bag", "things"] (spD ⟨P, w, K⟩ 2 f__law_some) :=
  fn_mk F sc__law_some rfl rfl fun cdv A outer s H E hr => (mss_one (ms_ret (me_ix (me_var 1) (me_callH h__law_take (by decide) hr (ma_cons (me_var 0) (ma_cons (me_bi call_len lift_len Z.z_len (ma_cons (me_var 1) ma_nil)) ma_nil))))))
theorem ok__law_same {f : Addr} {fd : FuncData} (F : Fun K "_law_same" "_law_same" s__law_same f fd) (Z : ZZ mg) : FnOk P w K mg base CX0 1 f fd ["found", "due"] (spD ⟨P, w, K⟩ 2 f__law_same) :=
  fn_mk F sc__law_same rfl rfl fun cdv A outer s H E hr => (mss_cons (ms_parF 2 3 rfl sc__law_same.nd (mf_lst (ma_cons (me_tup (ma_cons (me_var 0) (ma_cons (me_var 1) ma_nil))) ma_nil)) me_int rfl)
    (mss_cons (ms_while PassesOwn.never (mt_cmp (op_ltW hr.units) lift_dat (me_var 3) (me_bi call_len lift_len Z.z_len (ma_cons (me_var 2) ma_nil)) (by first | exact nomark _ | rfl))
    (mss_cons (ms_asg (me_ix (me_var 2) (me_var 3)) (mg_tup rfl (mgs_cons (mg_name 4 sc__law_same.nd) (mgs_cons (mg_name 5 sc__law_same.nd) mgs_nil))))
    (mss_cons (ms_aug 3 sc__law_same.nd ip_add lift_ipI me_int)
    (mss_cons (ms_if (mw_pt (mw_or (mt_cmp (op_neW hr.units) lift_dat (me_isa (T := "bool") Z.z_isinstance Z.z_bool (me_var 4)) (me_isa (T := "bool") Z.z_isinstance Z.z_bool (me_var 5)) (by first | exact nomark _ | rfl)) (mw_or1 (mt_cmp (op_neW hr.units) lift_dat (me_isa (T := "str") Z.z_isinstance Z.z_str (me_var 4)) (me_isa (T := "str") Z.z_isinstance Z.z_str (me_var 5)) (by first | exact nomark _ | rfl)))))
    (mss_one (ms_ret me_bl))
    mss_nil)
    (mss_cons (ms_if (mt_cmp (op_neW hr.units) lift_dat (me_isaT Z.z_isinstance (me_var 4) (pa_ty (T := "tuple") Z.z_tuple (pa_ty (T := "list") Z.z_list pa_nil))) (me_isaT Z.z_isinstance (me_var 5) (pa_ty (T := "tuple") Z.z_tuple (pa_ty (T := "list") Z.z_list pa_nil))) (by first | exact nomark _ | rfl))
    (mss_one (ms_ret me_bl))
    mss_nil)
    (mss_one (ms_if (mt_truth (me_isaT Z.z_isinstance (me_var 4) (pa_ty (T := "tuple") Z.z_tuple (pa_ty (T := "list") Z.z_list pa_nil))))
    (mss_cons (ms_if (mw_pt (mw_or (mt_cmp (op_neW hr.units) lift_dat (me_isa (T := "tuple") Z.z_isinstance Z.z_tuple (me_var 4)) (me_isa (T := "tuple") Z.z_isinstance Z.z_tuple (me_var 5)) (by first | exact nomark _ | rfl)) (mw_or1 (mt_cmp (op_neW hr.units) lift_dat (me_bi call_len lift_len Z.z_len (ma_cons (me_var 4) ma_nil)) (me_bi call_len lift_len Z.z_len (ma_cons (me_var 5) ma_nil)) (by first | exact nomark _ | rfl)))))
    (mss_one (ms_ret me_bl))
    mss_nil)
    (mss_one (ms_ownM 2 PySem.F.slot_list_extend PySem.F.type_list_extend mt_extendR lift_extend (ma_cons (me_lz rfl Z.z_list Z.z_zip (ma_cons (me_var 4) (ma_cons (me_var 5) ma_nil))) ma_nil))))
    (mss_one (ms_if (mt_cmp (op_neW hr.units) lift_dat (me_var 4) (me_var 5) (by first | exact nomark _ | rfl))
    (mss_one (ms_ret me_bl))
    mss_nil)))))))))
    (mss_one (ms_ret me_bl))))
theorem ok__law_reduced {f : Addr} {fd : FuncData} (F : Fun K "_law_reduced" "_law_reduced" s__law_reduced f fd) (Z : ZZ mg) : FnOk P w K mg base CX0 1 f fd ["card", "fare"] (spD ⟨P, w, K⟩ 2 f__law_reduced) :=
  fn_mk F sc__law_reduced rfl rfl fun cdv A outer s H E hr => (mss_one (ms_ret (me_op op_mulB lift_mulI (me_un un_neg lift_neg (me_op op_fdivW lift_fdiv (me_op op_sub lift_sub me_int (me_op op_mulB lift_mulI (me_var 1) (me_op op_sub lift_sub me_int (me_ix (me_var 0) me_int)))) (me_op op_mulB lift_mulI me_int (me_ix (me_var 0) me_int)))) (me_ix (me_var 0) me_int))))
theorem ok__law_pair {f : Addr} {fd : FuncData} (F : Fun K "_law_pair" "_law_pair" s__law_pair f fd) (Z : ZZ mg) (h__law_some : FnHas P w K mg base 2 "_law_some" ["bag", "things"] (spD ⟨P, w, K⟩ 2 f__law_some)) (h__law_take : FnHas P w K mg base 1 "_law_take" ["bag", "many"] (spD ⟨P, w, K⟩ 2 f__law_take)) : FnOk P w K mg base CX0 3 f fd ["bag"] (spD ⟨P, w, K⟩ 1 f__law_pair) :=
  fn_mk F sc__law_pair rfl rfl fun cdv A outer s H E hr => (mss_cons (ms_set 1 sc__law_pair.nd (me_tup (ma_cons (me_callH h__law_some (by decide) hr (ma_cons (me_var 0) (ma_cons (me_fz (mf_lst (ma_cons me_int (ma_cons me_int (ma_cons me_int ma_nil))))) ma_nil))) (ma_cons (me_op op_addW lift_add me_int (me_callH h__law_take (by decide) hr (ma_cons (me_var 0) (ma_cons me_int ma_nil)))) (ma_cons (me_op op_addW lift_add me_int (me_callH h__law_take (by decide) hr (ma_cons (me_var 0) (ma_cons me_int ma_nil)))) ma_nil)))))
    (mss_cons (ms_par 2 3 rfl sc__law_pair.nd (ma_cons (me_callH h__law_take (by decide) hr (ma_cons (me_var 0) (ma_cons me_int ma_nil))) (ma_cons (me_var 1) ma_nil)) rfl)
    (mss_cons (ms_if (mt_cmp (op_eqW hr.units) lift_dat (me_var 2) me_int (by first | exact nomark _ | rfl))
    (mss_one (ms_set 3 sc__law_pair.nd (me_tup (ma_cons (me_callH h__law_some (by decide) hr (ma_cons (me_var 0) (ma_cons (me_fz (mf_lst (ma_cons me_int (ma_cons me_int (ma_cons me_int (ma_cons me_int ma_nil)))))) ma_nil))) (ma_cons (me_ix (me_var 1) me_int) (ma_cons (me_ix (me_var 1) me_int) ma_nil))))))
    (mss_one (ms_if (mt_cmp (op_eqW hr.units) lift_dat (me_var 2) me_int (by first | exact nomark _ | rfl))
    (mss_one (ms_set 3 sc__law_pair.nd (me_tup (ma_cons (me_ix (me_var 1) me_int) (ma_cons (me_bi (call_max2 rfl) (lift_int2 (f := fun i j => if j > i then j else i)) Z.z_max (ma_cons me_int (ma_cons (me_bi (call_min2 rfl) (lift_int2 (f := fun i j => if j < i then j else i)) Z.z_min (ma_cons me_int (ma_cons (me_op op_addW lift_add (me_ix (me_var 1) me_int) (me_callH h__law_some (by decide) hr (ma_cons (me_var 0) (ma_cons (me_fz (mf_lst (ma_cons me_int (ma_cons (me_un un_neg lift_neg me_int) (ma_cons me_int ma_nil))))) ma_nil)))) ma_nil))) ma_nil))) (ma_cons (me_ix (me_var 1) me_int) ma_nil))))))
    (mss_one (ms_if (mt_cmp (op_eqW hr.units) lift_dat (me_var 2) me_int (by first | exact nomark _ | rfl))
    (mss_one (ms_set 3 sc__law_pair.nd (me_tup (ma_cons (me_ix (me_var 1) me_int) (ma_cons (me_ix (me_var 1) me_int) (ma_cons (me_op op_addW lift_add me_int (me_callH h__law_take (by decide) hr (ma_cons (me_var 0) (ma_cons me_int ma_nil)))) ma_nil))))))
    (mss_one (ms_if (mt_cmp (op_eqW hr.units) lift_dat (me_var 2) me_int (by first | exact nomark _ | rfl))
    (mss_one (ms_set 3 sc__law_pair.nd (me_tup (ma_cons (me_op op_addW lift_add (me_ix (me_var 1) me_int) (me_callH h__law_take (by decide) hr (ma_cons (me_var 0) (ma_cons me_int ma_nil)))) (ma_cons (me_op op_addW lift_add me_int (me_callH h__law_take (by decide) hr (ma_cons (me_var 0) (ma_cons me_int ma_nil)))) (ma_cons (me_op op_addW lift_add me_int (me_callH h__law_take (by decide) hr (ma_cons (me_var 0) (ma_cons me_int ma_nil)))) ma_nil))))))
    mss_nil)))))))
    (mss_one (ms_ret (me_if (mt_cmp (op_eqW hr.units) lift_dat (me_callH h__law_take (by decide) hr (ma_cons (me_var 0) (ma_cons me_int ma_nil))) me_int (by first | exact nomark _ | rfl)) (me_tup (ma_cons (me_var 1) (ma_cons (me_var 3) ma_nil))) (me_tup (ma_cons (me_var 3) (ma_cons (me_var 1) ma_nil)))))))))
theorem ok__law_common {f : Addr} {fd : FuncData} (F : Fun K "_law_common" "_law_common" s__law_common f fd) (Z : ZZ mg) : FnOk P w K mg base CX0 1 f fd ["one", "other"] (spD ⟨P, w, K⟩ 2 f__law_common) :=
  fn_mk F sc__law_common rfl rfl fun cdv A outer s H E hr => (mss_cons (ms_set 2 sc__law_common.nd (me_var 0))
    (mss_cons (ms_for PassesOwn.never rfl (mis_range1 Z.z_range (ma_cons me_int ma_nil)) (mg_name 3 sc__law_common.nd)
    (mss_one (ms_aug 2 sc__law_common.nd ip_add lift_ipI (me_if (mt_cmp (op_neW hr.units) lift_dat (me_op op_mod lift_mod (me_ty call_int1 lift_intF Z.z_int (ma_cons (me_var 2) ma_nil)) (me_var 1)) me_int (by first | exact nomark _ | rfl)) (me_var 0) me_int))))
    (mss_one (ms_retV 2))))
theorem ok_law {f : Addr} {fd : FuncData} (F : Fun K "law" "law" s_law f fd) (Z : ZZ mg) (h__law_bag : FnHas P w K mg base 1 "_law_bag" ["script"] (spD ⟨P, w, K⟩ 1 f__law_bag)) (h__law_pair : FnHas P w K mg base 3 "_law_pair" ["bag"] (spD ⟨P, w, K⟩ 1 f__law_pair)) (h__law_common : FnHas P w K mg base 1 "_law_common" ["one", "other"] (spD ⟨P, w, K⟩ 2 f__law_common)) (h__law_reduced : FnHas P w K mg base 1 "_law_reduced" ["card", "fare"] (spD ⟨P, w, K⟩ 2 f__law_reduced)) (h_first_worse : FnHas P w K mg base 4 "first_worse" ["card", "other"] (spD ⟨P, w, K⟩ 2 f_first_worse)) (h__law_same : FnHas P w K mg base 1 "_law_same" ["found", "due"] (spD ⟨P, w, K⟩ 2 f__law_same)) (h_is_never_worse : FnHas P w K mg base 5 "is_never_worse" ["card", "other"] (spD ⟨P, w, K⟩ 2 f_is_never_worse)) (h_reduced : FnHas P w K mg base 2 "reduced" ["card", "fare"] (spD ⟨P, w, K⟩ 2 f_reduced)) (h__law_some : FnHas P w K mg base 2 "_law_some" ["bag", "things"] (spD ⟨P, w, K⟩ 2 f__law_some)) (h__law_take : FnHas P w K mg base 1 "_law_take" ["bag", "many"] (spD ⟨P, w, K⟩ 2 f__law_take)) (h_paid_with : FnHas P w K mg base 7 "paid_with" ["passes", "card", "rides"] (spD ⟨P, w, K⟩ 3 f_paid_with)) : FnOk P w K mg base CX0 8 f fd ["script"] (spD ⟨P, w, K⟩ 1 f_law) :=
  fn_mk F sc_law rfl rfl fun cdv A outer s H E hr => (mss_cons (ms_set 1 sc_law.nd (me_callH h__law_bag (by decide) hr (ma_cons (me_var 0) ma_nil)))
    (mss_cons (ms_for PassesOwn.never rfl (mis_range1 Z.z_range (ma_cons me_int ma_nil)) (mg_name 2 sc_law.nd)
    (mss_cons (ms_asg (me_callH h__law_pair (by decide) hr (ma_cons (me_var 1) ma_nil)) (mg_tup rfl (mgs_cons (mg_name 3 sc_law.nd) (mgs_cons (mg_name 4 sc_law.nd) mgs_nil))))
    (mss_cons (ms_set 5 sc_law.nd (me_op op_mulB lift_mulI me_int (me_callH h__law_common (by decide) hr (ma_cons (me_ix (me_var 3) me_int) (ma_cons (me_ix (me_var 4) me_int) ma_nil)))))
    (mss_cons (ms_set 6 sc_law.nd me_non)
    (mss_cons (ms_for PassesOwn.never rfl (mis_range2 Z.z_range (ma_cons me_int (ma_cons (me_op op_addW lift_add (me_bi (call_max2 rfl) (lift_int2 (f := fun i j => if j > i then j else i)) Z.z_max (ma_cons (me_var 5) (ma_cons me_int ma_nil))) me_int) ma_nil))) (mg_name 7 sc_law.nd)
    (mss_one (ms_if (mt_cmp (op_gtW hr.units) lift_dat (me_callH h__law_reduced (by decide) hr (ma_cons (me_var 3) (ma_cons (me_var 7) ma_nil))) (me_callH h__law_reduced (by decide) hr (ma_cons (me_var 4) (ma_cons (me_var 7) ma_nil))) (by first | exact nomark _ | rfl))
    (mss_cons (ms_set 6 sc_law.nd (me_var 7))
    (mss_one ms_break))
    mss_nil)))
    (mss_cons (ms_set 8 sc_law.nd (me_and (me_cmp (op_leW hr.units) lift_dat (me_ix (me_var 3) me_int) (me_ix (me_var 4) me_int) (by first | exact nomark _ | rfl)) (me_and (me_cmp (op_geW hr.units) lift_dat (me_ix (me_var 3) me_int) (me_ix (me_var 4) me_int) (by first | exact nomark _ | rfl)) (me_one (me_or (me_cmp op_isW lift_is (me_var 6) me_non (by first | exact nomark _ | rfl)) (me_one (me_cmp (op_gtW hr.units) lift_dat (me_var 6) (me_var 5) (by first | exact nomark _ | rfl))))))))
    (mss_cons (ms_set 9 sc_law.nd (me_and (me_cmp (op_leW hr.units) lift_dat (me_ix (me_var 3) me_int) (me_ix (me_var 4) me_int) (by first | exact nomark _ | rfl)) (me_one (me_cmp op_isW lift_is (me_var 6) me_non (by first | exact nomark _ | rfl)))))
    (mss_cons (ms_if (mt_cmp (op_neW hr.units) lift_dat (me_var 8) (me_var 9) (by first | exact nomark _ | rfl))
    (mss_one (ms_ret me_bl))
    mss_nil)
    (mss_cons (ms_set 10 sc_law.nd (me_callH h_first_worse (by decide) hr (ma_cons (me_var 3) (ma_cons (me_var 4) ma_nil))))
    (mss_cons (ms_if (mw_pt (mw_or (mt_not (mt_truth (me_callH h__law_same (by decide) hr (ma_cons (me_callH h_is_never_worse (by decide) hr (ma_cons (me_var 3) (ma_cons (me_var 4) ma_nil))) (ma_cons (me_var 9) ma_nil))))) (mw_or1 (mt_cmp (op_neW hr.units) lift_dat (me_cmp op_isW lift_is (me_var 10) me_non (by first | exact nomark _ | rfl)) (me_var 9) (by first | exact nomark _ | rfl)))))
    (mss_one (ms_ret me_bl))
    mss_nil)
    (mss_cons (ms_if (mt_cmp (op_gtW hr.units) lift_dat (me_ix (me_var 3) me_int) (me_ix (me_var 4) me_int) (by first | exact nomark _ | rfl))
    (mss_one (ms_if (mt_cmp (op_neW hr.units) lift_dat (me_var 10) (me_tup (ma_cons me_int (ma_cons me_int ma_nil))) (by first | exact nomark _ | rfl))
    (mss_one (ms_ret me_bl))
    mss_nil))
    (mss_one (ms_if (mt_cmp op_isNotW lift_is (me_var 6) me_non (by first | exact nomark _ | rfl))
    (mss_cons (ms_set 11 sc_law.nd (me_op op_sub lift_sub (me_callH h__law_reduced (by decide) hr (ma_cons (me_var 3) (ma_cons (me_var 6) ma_nil))) (me_callH h__law_reduced (by decide) hr (ma_cons (me_var 4) (ma_cons (me_var 6) ma_nil)))))
    (mss_cons (ms_set 12 sc_law.nd (me_op op_addW lift_add (me_op op_fdivW lift_fdiv (me_op op_sub lift_sub (me_ix (me_var 4) me_int) (me_ix (me_var 3) me_int)) (me_var 11)) me_int))
    (mss_cons (ms_if (mt_not (mt_truth (me_callH h__law_same (by decide) hr (ma_cons (me_var 10) (ma_cons (me_tup (ma_cons (me_var 6) (ma_cons (me_var 12) ma_nil))) ma_nil)))))
    (mss_one (ms_ret me_bl))
    mss_nil)
    (mss_cons (ms_fzS 13 (ms_setLc 13 (own := [("one", 16)]) rfl sc_law.nd (mi_seq (me_tup (ma_cons (me_var 3) (ma_cons (me_var 4) ma_nil)))) (blkOk_by (N := N_law) (sc := (defScope s_law)) (by decide +kernel)) (fun _ _ _ _ _ => (mg_name 16 sc_law.nd)) (fun _ _ _ _ _ => mts_nil) (fun _ _ _ _ _ => (me_op op_addW lift_add (me_ix (me_var 16) me_int) (me_op op_mulB lift_mulI (me_var 12) (me_callH h_reduced (by decide) hr (ma_cons (me_var 16) (ma_cons (me_var 6) ma_nil)))))) (by decide) (sw_true rfl rfl rfl (by decide +kernel))))
    (mss_one (ms_if (mw_pt (mw_or (mt_cmp (op_leW hr.units) lift_dat (me_ix (me_var 13) me_int) (me_ix (me_var 13) me_int) (by first | exact nomark _ | rfl)) (mw_or1 (mt_cmp (op_gtW hr.units) lift_dat (me_op op_sub lift_sub (me_ix (me_var 13) me_int) (me_var 11)) (me_ix (me_var 13) me_int) (by first | exact nomark _ | rfl)))))
    (mss_one (ms_ret me_bl))
    mss_nil))))))
    mss_nil)))
    (mss_cons (ms_if (mt_cmp op_isNotW lift_is (me_callH h_is_never_worse (by decide) hr (ma_cons (me_var 3) (ma_cons (me_var 3) ma_nil))) me_bl (by first | exact nomark _ | rfl))
    (mss_one (ms_ret me_bl))
    mss_nil)
    (mss_one (ms_for PassesOwn.never rfl (mis_range1 Z.z_range (ma_cons me_int ma_nil)) (mg_name 14 sc_law.nd)
    (mss_cons (ms_set 5 sc_law.nd (me_callH h__law_some (by decide) hr (ma_cons (me_var 1) (ma_cons (me_fz (mf_lst (ma_cons me_int (ma_cons me_int (ma_cons me_int ma_nil))))) ma_nil))))
    (mss_cons (ms_set 15 sc_law.nd (me_ty call_tuple_of lift_tuple Z.z_tuple (ma_cons (me_fz (mf_lc (own := [("ride", 17)]) rfl sc_law.nd (mi_of (mis_range1 Z.z_range (ma_cons (me_callH h__law_take (by decide) hr (ma_cons (me_var 1) (ma_cons me_int ma_nil))) ma_nil))) (blkOk_by (N := N_law) (sc := (defScope s_law)) (by decide +kernel)) (fun _ _ _ _ _ => (mg_name 17 sc_law.nd)) (fun _ _ _ _ _ => mts_nil) (fun _ _ _ _ _ => (me_tup (ma_cons (me_tup (ma_cons me_int ma_nil)) (ma_cons (me_callH h__law_take (by decide) hr (ma_cons (me_var 1) (ma_cons (me_var 5) ma_nil))) ma_nil)))) (by decide))) ma_nil)))
    (mss_cons (ms_fzS 13 (ms_setLc 13 (own := [("one", 16)]) rfl sc_law.nd (mi_seq (me_tup (ma_cons (me_var 3) (ma_cons (me_var 4) ma_nil)))) (blkOk_by (N := N_law) (sc := (defScope s_law)) (by decide +kernel)) (fun _ _ _ _ _ => (mg_name 16 sc_law.nd)) (fun _ _ _ _ _ => mts_nil) (fun _ _ _ _ _ => (me_op op_addW lift_add (me_ix (me_var 16) me_int) (me_bi (cr_sum rfl) lift_sum Z.z_sum (ma_cons (me_fz (mf_lc (own := [("zones", 18), ("fare", 7)]) rfl sc_law.nd (mi_seq (me_var 15)) (blkOk_by (N := N_law) (sc := ({ kind := .function, names := [(".0", .local), ("one", .cell), ("sum", .globalImplicit), ("rides", .cell)], isGenerator := false, isCoroutine := false, more := [] } : Scope)) (by decide +kernel)) (fun _ _ _ _ _ => (mg_tup rfl (mgs_cons (mg_name 18 sc_law.nd) (mgs_cons (mg_name 7 sc_law.nd) mgs_nil)))) (fun _ _ _ _ _ => mts_nil) (fun _ _ _ _ _ => (me_callH h__law_reduced (by decide) hr (ma_cons (me_var 16) (ma_cons (me_var 7) ma_nil)))) (by decide))) ma_nil)))) (by decide) (sw_true rfl rfl rfl (by decide +kernel))))
    (mss_cons (ms_if (mt_not (mt_truth (me_callH h__law_same (by decide) hr (ma_cons (me_fz (mf_lst (ma_cons (me_callH h_paid_with (by decide) hr (ma_cons (me_tup ma_nil) (ma_cons (me_var 3) (ma_cons (me_var 15) ma_nil)))) (ma_cons (me_callH h_paid_with (by decide) hr (ma_cons (me_tup ma_nil) (ma_cons (me_var 4) (ma_cons (me_var 15) ma_nil)))) ma_nil)))) (ma_cons (me_var 13) ma_nil)))))
    (mss_one (ms_ret me_bl))
    mss_nil)
    (mss_one (ms_if (mw_pt (mw_and (mt_truth (me_var 9)) (mw_and1 (mt_cmp (op_gtW hr.units) lift_dat (me_ix (me_var 13) me_int) (me_ix (me_var 13) me_int) (by first | exact nomark _ | rfl)))))
    (mss_one (ms_ret me_bl))
    mss_nil))))))))))))))))))))
    (mss_one (ms_ret me_bl))))
end
/-! ### what the top has written -/
theorem all_mk {l : PySem.W.OpenLaw} {w : World} {K : PySem.W.Frag} {h : Heap} {mg : Str → Option Value} {fa : Addr} (X : K.In h) (G : h.Ns mainGlobals mg) (hfa : mg "law" = some (.ref fa))
    {f_has_all_ : Addr} {od_has_all an_has_all : Option Addr} {sl_has_all : Array (Option Value)} {oc_has_all kV_has_all dc_has_all pm_has_all cd_has_all ct_has_all : Value} {f_holds_ : Addr} {od_holds an_holds : Option Addr} {sl_holds : Array (Option Value)} {oc_holds kV_holds dc_holds pm_holds cd_holds ct_holds : Value} {f_prices_of_lots_ : Addr} {od_prices_of_lots an_prices_of_lots : Option Addr} {sl_prices_of_lots : Array (Option Value)} {oc_prices_of_lots kV_prices_of_lots dc_prices_of_lots pm_prices_of_lots cd_prices_of_lots ct_prices_of_lots : Value} {f_hits_of_ : Addr} {od_hits_of an_hits_of : Option Addr} {sl_hits_of : Array (Option Value)} {oc_hits_of kV_hits_of dc_hits_of pm_hits_of cd_hits_of ct_hits_of : Value} {f_with_ride_ : Addr} {od_with_ride an_with_ride : Option Addr} {sl_with_ride : Array (Option Value)} {oc_with_ride kV_with_ride dc_with_ride pm_with_ride cd_with_ride ct_with_ride : Value} {f_costs_of_lots_ : Addr} {od_costs_of_lots an_costs_of_lots : Option Addr} {sl_costs_of_lots : Array (Option Value)} {oc_costs_of_lots kV_costs_of_lots dc_costs_of_lots pm_costs_of_lots cd_costs_of_lots ct_costs_of_lots : Value} {f_best_price_ : Addr} {od_best_price an_best_price : Option Addr} {sl_best_price : Array (Option Value)} {oc_best_price kV_best_price dc_best_price pm_best_price cd_best_price ct_best_price : Value} {f_least_above_ : Addr} {od_least_above an_least_above : Option Addr} {sl_least_above : Array (Option Value)} {oc_least_above kV_least_above dc_least_above pm_least_above cd_least_above ct_least_above : Value} {f_reduced_ : Addr} {od_reduced an_reduced : Option Addr} {sl_reduced : Array (Option Value)} {oc_reduced kV_reduced dc_reduced pm_reduced cd_reduced ct_reduced : Value} {f_reduced_rides_ : Addr} {od_reduced_rides an_reduced_rides : Option Addr} {sl_reduced_rides : Array (Option Value)} {oc_reduced_rides kV_reduced_rides dc_reduced_rides pm_reduced_rides cd_reduced_rides ct_reduced_rides : Value} {f_paid_with_ : Addr} {od_paid_with an_paid_with : Option Addr} {sl_paid_with : Array (Option Value)} {oc_paid_with kV_paid_with dc_paid_with pm_paid_with cd_paid_with ct_paid_with : Value} {f_common_steps_ : Addr} {od_common_steps an_common_steps : Option Addr} {sl_common_steps : Array (Option Value)} {oc_common_steps kV_common_steps dc_common_steps pm_common_steps cd_common_steps ct_common_steps : Value} {f_first_dearer_fare_ : Addr} {od_first_dearer_fare an_first_dearer_fare : Option Addr} {sl_first_dearer_fare : Array (Option Value)} {oc_first_dearer_fare kV_first_dearer_fare dc_first_dearer_fare pm_first_dearer_fare cd_first_dearer_fare ct_first_dearer_fare : Value} {f_first_worse_ : Addr} {od_first_worse an_first_worse : Option Addr} {sl_first_worse : Array (Option Value)} {oc_first_worse kV_first_worse dc_first_worse pm_first_worse cd_first_worse ct_first_worse : Value} {f_is_never_worse_ : Addr} {od_is_never_worse an_is_never_worse : Option Addr} {sl_is_never_worse : Array (Option Value)} {oc_is_never_worse kV_is_never_worse dc_is_never_worse pm_is_never_worse cd_is_never_worse ct_is_never_worse : Value} {f__law_bag_ : Addr} {od__law_bag an__law_bag : Option Addr} {sl__law_bag : Array (Option Value)} {oc__law_bag kV__law_bag dc__law_bag pm__law_bag cd__law_bag ct__law_bag : Value} {f__law_take_ : Addr} {od__law_take an__law_take : Option Addr} {sl__law_take : Array (Option Value)} {oc__law_take kV__law_take dc__law_take pm__law_take cd__law_take ct__law_take : Value} {f__law_some_ : Addr} {od__law_some an__law_some : Option Addr} {sl__law_some : Array (Option Value)} {oc__law_some kV__law_some dc__law_some pm__law_some cd__law_some ct__law_some : Value} {f__law_same_ : Addr} {od__law_same an__law_same : Option Addr} {sl__law_same : Array (Option Value)} {oc__law_same kV__law_same dc__law_same pm__law_same cd__law_same ct__law_same : Value} {f__law_reduced_ : Addr} {od__law_reduced an__law_reduced : Option Addr} {sl__law_reduced : Array (Option Value)} {oc__law_reduced kV__law_reduced dc__law_reduced pm__law_reduced cd__law_reduced ct__law_reduced : Value} {f__law_pair_ : Addr} {od__law_pair an__law_pair : Option Addr} {sl__law_pair : Array (Option Value)} {oc__law_pair kV__law_pair dc__law_pair pm__law_pair cd__law_pair ct__law_pair : Value} {f__law_common_ : Addr} {od__law_common an__law_common : Option Addr} {sl__law_common : Array (Option Value)} {oc__law_common kV__law_common dc__law_common pm__law_common cd__law_common ct__law_common : Value} {f_law_ : Addr} {od_law an_law : Option Addr} {sl_law : Array (Option Value)} {oc_law kV_law dc_law pm_law cd_law ct_law : Value} {t_WHOLE : Tok} {t_FAR : Tok}
    (a_has_all : PySem.W.nsIn K mainGlobals "has_all" = some (some (.ref f_has_all_))) (l_has_all : K.lookup f_has_all_ = some ⟨oc_has_all, od_has_all, .func (PySem.W.fnOf "has_all" "has_all" (defArgs s_has_all) (defBody s_has_all) (defScope s_has_all) .none kV_has_all dc_has_all pm_has_all an_has_all cd_has_all ct_has_all), sl_has_all⟩) (c_has_all : PySem.W.codeIn K cd_has_all "has_all" = true) (k_has_all : PySem.W.keepIn K (.ref f_has_all_) = true)
    (a_holds : PySem.W.nsIn K mainGlobals "holds" = some (some (.ref f_holds_))) (l_holds : K.lookup f_holds_ = some ⟨oc_holds, od_holds, .func (PySem.W.fnOf "holds" "holds" (defArgs s_holds) (defBody s_holds) (defScope s_holds) .none kV_holds dc_holds pm_holds an_holds cd_holds ct_holds), sl_holds⟩) (c_holds : PySem.W.codeIn K cd_holds "holds" = true) (k_holds : PySem.W.keepIn K (.ref f_holds_) = true)
    (a_prices_of_lots : PySem.W.nsIn K mainGlobals "prices_of_lots" = some (some (.ref f_prices_of_lots_))) (l_prices_of_lots : K.lookup f_prices_of_lots_ = some ⟨oc_prices_of_lots, od_prices_of_lots, .func (PySem.W.fnOf "prices_of_lots" "prices_of_lots" (defArgs s_prices_of_lots) (defBody s_prices_of_lots) (defScope s_prices_of_lots) .none kV_prices_of_lots dc_prices_of_lots pm_prices_of_lots an_prices_of_lots cd_prices_of_lots ct_prices_of_lots), sl_prices_of_lots⟩) (c_prices_of_lots : PySem.W.codeIn K cd_prices_of_lots "prices_of_lots" = true) (k_prices_of_lots : PySem.W.keepIn K (.ref f_prices_of_lots_) = true)
    (a_hits_of : PySem.W.nsIn K mainGlobals "hits_of" = some (some (.ref f_hits_of_))) (l_hits_of : K.lookup f_hits_of_ = some ⟨oc_hits_of, od_hits_of, .func (PySem.W.fnOf "hits_of" "hits_of" (defArgs s_hits_of) (defBody s_hits_of) (defScope s_hits_of) .none kV_hits_of dc_hits_of pm_hits_of an_hits_of cd_hits_of ct_hits_of), sl_hits_of⟩) (c_hits_of : PySem.W.codeIn K cd_hits_of "hits_of" = true) (k_hits_of : PySem.W.keepIn K (.ref f_hits_of_) = true)
    (a_with_ride : PySem.W.nsIn K mainGlobals "with_ride" = some (some (.ref f_with_ride_))) (l_with_ride : K.lookup f_with_ride_ = some ⟨oc_with_ride, od_with_ride, .func (PySem.W.fnOf "with_ride" "with_ride" (defArgs s_with_ride) (defBody s_with_ride) (defScope s_with_ride) .none kV_with_ride dc_with_ride pm_with_ride an_with_ride cd_with_ride ct_with_ride), sl_with_ride⟩) (c_with_ride : PySem.W.codeIn K cd_with_ride "with_ride" = true) (k_with_ride : PySem.W.keepIn K (.ref f_with_ride_) = true)
    (a_costs_of_lots : PySem.W.nsIn K mainGlobals "costs_of_lots" = some (some (.ref f_costs_of_lots_))) (l_costs_of_lots : K.lookup f_costs_of_lots_ = some ⟨oc_costs_of_lots, od_costs_of_lots, .func (PySem.W.fnOf "costs_of_lots" "costs_of_lots" (defArgs s_costs_of_lots) (defBody s_costs_of_lots) (defScope s_costs_of_lots) .none kV_costs_of_lots dc_costs_of_lots pm_costs_of_lots an_costs_of_lots cd_costs_of_lots ct_costs_of_lots), sl_costs_of_lots⟩) (c_costs_of_lots : PySem.W.codeIn K cd_costs_of_lots "costs_of_lots" = true) (k_costs_of_lots : PySem.W.keepIn K (.ref f_costs_of_lots_) = true)
    (a_best_price : PySem.W.nsIn K mainGlobals "best_price" = some (some (.ref f_best_price_))) (l_best_price : K.lookup f_best_price_ = some ⟨oc_best_price, od_best_price, .func (PySem.W.fnOf "best_price" "best_price" (defArgs s_best_price) (defBody s_best_price) (defScope s_best_price) .none kV_best_price dc_best_price pm_best_price an_best_price cd_best_price ct_best_price), sl_best_price⟩) (c_best_price : PySem.W.codeIn K cd_best_price "best_price" = true) (k_best_price : PySem.W.keepIn K (.ref f_best_price_) = true)
    (a_least_above : PySem.W.nsIn K mainGlobals "least_above" = some (some (.ref f_least_above_))) (l_least_above : K.lookup f_least_above_ = some ⟨oc_least_above, od_least_above, .func (PySem.W.fnOf "least_above" "least_above" (defArgs s_least_above) (defBody s_least_above) (defScope s_least_above) .none kV_least_above dc_least_above pm_least_above an_least_above cd_least_above ct_least_above), sl_least_above⟩) (c_least_above : PySem.W.codeIn K cd_least_above "least_above" = true) (k_least_above : PySem.W.keepIn K (.ref f_least_above_) = true)
    (a_reduced : PySem.W.nsIn K mainGlobals "reduced" = some (some (.ref f_reduced_))) (l_reduced : K.lookup f_reduced_ = some ⟨oc_reduced, od_reduced, .func (PySem.W.fnOf "reduced" "reduced" (defArgs s_reduced) (defBody s_reduced) (defScope s_reduced) .none kV_reduced dc_reduced pm_reduced an_reduced cd_reduced ct_reduced), sl_reduced⟩) (c_reduced : PySem.W.codeIn K cd_reduced "reduced" = true) (k_reduced : PySem.W.keepIn K (.ref f_reduced_) = true)
    (a_reduced_rides : PySem.W.nsIn K mainGlobals "reduced_rides" = some (some (.ref f_reduced_rides_))) (l_reduced_rides : K.lookup f_reduced_rides_ = some ⟨oc_reduced_rides, od_reduced_rides, .func (PySem.W.fnOf "reduced_rides" "reduced_rides" (defArgs s_reduced_rides) (defBody s_reduced_rides) (defScope s_reduced_rides) .none kV_reduced_rides dc_reduced_rides pm_reduced_rides an_reduced_rides cd_reduced_rides ct_reduced_rides), sl_reduced_rides⟩) (c_reduced_rides : PySem.W.codeIn K cd_reduced_rides "reduced_rides" = true) (k_reduced_rides : PySem.W.keepIn K (.ref f_reduced_rides_) = true)
    (a_paid_with : PySem.W.nsIn K mainGlobals "paid_with" = some (some (.ref f_paid_with_))) (l_paid_with : K.lookup f_paid_with_ = some ⟨oc_paid_with, od_paid_with, .func (PySem.W.fnOf "paid_with" "paid_with" (defArgs s_paid_with) (defBody s_paid_with) (defScope s_paid_with) .none kV_paid_with dc_paid_with pm_paid_with an_paid_with cd_paid_with ct_paid_with), sl_paid_with⟩) (c_paid_with : PySem.W.codeIn K cd_paid_with "paid_with" = true) (k_paid_with : PySem.W.keepIn K (.ref f_paid_with_) = true)
    (a_common_steps : PySem.W.nsIn K mainGlobals "common_steps" = some (some (.ref f_common_steps_))) (l_common_steps : K.lookup f_common_steps_ = some ⟨oc_common_steps, od_common_steps, .func (PySem.W.fnOf "common_steps" "common_steps" (defArgs s_common_steps) (defBody s_common_steps) (defScope s_common_steps) .none kV_common_steps dc_common_steps pm_common_steps an_common_steps cd_common_steps ct_common_steps), sl_common_steps⟩) (c_common_steps : PySem.W.codeIn K cd_common_steps "common_steps" = true) (k_common_steps : PySem.W.keepIn K (.ref f_common_steps_) = true)
    (a_first_dearer_fare : PySem.W.nsIn K mainGlobals "first_dearer_fare" = some (some (.ref f_first_dearer_fare_))) (l_first_dearer_fare : K.lookup f_first_dearer_fare_ = some ⟨oc_first_dearer_fare, od_first_dearer_fare, .func (PySem.W.fnOf "first_dearer_fare" "first_dearer_fare" (defArgs s_first_dearer_fare) (defBody s_first_dearer_fare) (defScope s_first_dearer_fare) .none kV_first_dearer_fare dc_first_dearer_fare pm_first_dearer_fare an_first_dearer_fare cd_first_dearer_fare ct_first_dearer_fare), sl_first_dearer_fare⟩) (c_first_dearer_fare : PySem.W.codeIn K cd_first_dearer_fare "first_dearer_fare" = true) (k_first_dearer_fare : PySem.W.keepIn K (.ref f_first_dearer_fare_) = true)
    (a_first_worse : PySem.W.nsIn K mainGlobals "first_worse" = some (some (.ref f_first_worse_))) (l_first_worse : K.lookup f_first_worse_ = some ⟨oc_first_worse, od_first_worse, .func (PySem.W.fnOf "first_worse" "first_worse" (defArgs s_first_worse) (defBody s_first_worse) (defScope s_first_worse) .none kV_first_worse dc_first_worse pm_first_worse an_first_worse cd_first_worse ct_first_worse), sl_first_worse⟩) (c_first_worse : PySem.W.codeIn K cd_first_worse "first_worse" = true) (k_first_worse : PySem.W.keepIn K (.ref f_first_worse_) = true)
    (a_is_never_worse : PySem.W.nsIn K mainGlobals "is_never_worse" = some (some (.ref f_is_never_worse_))) (l_is_never_worse : K.lookup f_is_never_worse_ = some ⟨oc_is_never_worse, od_is_never_worse, .func (PySem.W.fnOf "is_never_worse" "is_never_worse" (defArgs s_is_never_worse) (defBody s_is_never_worse) (defScope s_is_never_worse) .none kV_is_never_worse dc_is_never_worse pm_is_never_worse an_is_never_worse cd_is_never_worse ct_is_never_worse), sl_is_never_worse⟩) (c_is_never_worse : PySem.W.codeIn K cd_is_never_worse "is_never_worse" = true) (k_is_never_worse : PySem.W.keepIn K (.ref f_is_never_worse_) = true)
    (a__law_bag : PySem.W.nsIn K mainGlobals "_law_bag" = some (some (.ref f__law_bag_))) (l__law_bag : K.lookup f__law_bag_ = some ⟨oc__law_bag, od__law_bag, .func (PySem.W.fnOf "_law_bag" "_law_bag" (defArgs s__law_bag) (defBody s__law_bag) (defScope s__law_bag) .none kV__law_bag dc__law_bag pm__law_bag an__law_bag cd__law_bag ct__law_bag), sl__law_bag⟩) (c__law_bag : PySem.W.codeIn K cd__law_bag "_law_bag" = true) (k__law_bag : PySem.W.keepIn K (.ref f__law_bag_) = true)
    (a__law_take : PySem.W.nsIn K mainGlobals "_law_take" = some (some (.ref f__law_take_))) (l__law_take : K.lookup f__law_take_ = some ⟨oc__law_take, od__law_take, .func (PySem.W.fnOf "_law_take" "_law_take" (defArgs s__law_take) (defBody s__law_take) (defScope s__law_take) .none kV__law_take dc__law_take pm__law_take an__law_take cd__law_take ct__law_take), sl__law_take⟩) (c__law_take : PySem.W.codeIn K cd__law_take "_law_take" = true) (k__law_take : PySem.W.keepIn K (.ref f__law_take_) = true)
    (a__law_some : PySem.W.nsIn K mainGlobals "_law_some" = some (some (.ref f__law_some_))) (l__law_some : K.lookup f__law_some_ = some ⟨oc__law_some, od__law_some, .func (PySem.W.fnOf "_law_some" "_law_some" (defArgs s__law_some) (defBody s__law_some) (defScope s__law_some) .none kV__law_some dc__law_some pm__law_some an__law_some cd__law_some ct__law_some), sl__law_some⟩) (c__law_some : PySem.W.codeIn K cd__law_some "_law_some" = true) (k__law_some : PySem.W.keepIn K (.ref f__law_some_) = true)
    (a__law_same : PySem.W.nsIn K mainGlobals "_law_same" = some (some (.ref f__law_same_))) (l__law_same : K.lookup f__law_same_ = some ⟨oc__law_same, od__law_same, .func (PySem.W.fnOf "_law_same" "_law_same" (defArgs s__law_same) (defBody s__law_same) (defScope s__law_same) .none kV__law_same dc__law_same pm__law_same an__law_same cd__law_same ct__law_same), sl__law_same⟩) (c__law_same : PySem.W.codeIn K cd__law_same "_law_same" = true) (k__law_same : PySem.W.keepIn K (.ref f__law_same_) = true)
    (a__law_reduced : PySem.W.nsIn K mainGlobals "_law_reduced" = some (some (.ref f__law_reduced_))) (l__law_reduced : K.lookup f__law_reduced_ = some ⟨oc__law_reduced, od__law_reduced, .func (PySem.W.fnOf "_law_reduced" "_law_reduced" (defArgs s__law_reduced) (defBody s__law_reduced) (defScope s__law_reduced) .none kV__law_reduced dc__law_reduced pm__law_reduced an__law_reduced cd__law_reduced ct__law_reduced), sl__law_reduced⟩) (c__law_reduced : PySem.W.codeIn K cd__law_reduced "_law_reduced" = true) (k__law_reduced : PySem.W.keepIn K (.ref f__law_reduced_) = true)
    (a__law_pair : PySem.W.nsIn K mainGlobals "_law_pair" = some (some (.ref f__law_pair_))) (l__law_pair : K.lookup f__law_pair_ = some ⟨oc__law_pair, od__law_pair, .func (PySem.W.fnOf "_law_pair" "_law_pair" (defArgs s__law_pair) (defBody s__law_pair) (defScope s__law_pair) .none kV__law_pair dc__law_pair pm__law_pair an__law_pair cd__law_pair ct__law_pair), sl__law_pair⟩) (c__law_pair : PySem.W.codeIn K cd__law_pair "_law_pair" = true) (k__law_pair : PySem.W.keepIn K (.ref f__law_pair_) = true)
    (a__law_common : PySem.W.nsIn K mainGlobals "_law_common" = some (some (.ref f__law_common_))) (l__law_common : K.lookup f__law_common_ = some ⟨oc__law_common, od__law_common, .func (PySem.W.fnOf "_law_common" "_law_common" (defArgs s__law_common) (defBody s__law_common) (defScope s__law_common) .none kV__law_common dc__law_common pm__law_common an__law_common cd__law_common ct__law_common), sl__law_common⟩) (c__law_common : PySem.W.codeIn K cd__law_common "_law_common" = true) (k__law_common : PySem.W.keepIn K (.ref f__law_common_) = true)
    (a_law : PySem.W.nsIn K mainGlobals "law" = some (some (.ref f_law_))) (l_law : K.lookup f_law_ = some ⟨oc_law, od_law, .func (PySem.W.fnOf "law" "law" (defArgs s_law) (defBody s_law) (defScope s_law) .none kV_law dc_law pm_law an_law cd_law ct_law), sl_law⟩) (c_law : PySem.W.codeIn K cd_law "law" = true) (k_law : PySem.W.keepIn K (.ref f_law_) = true)
    (z_all : PySem.W.nsIn K mainGlobals "all" = some none)
    (z_zip : PySem.W.nsIn K mainGlobals "zip" = some none)
    (z_min : PySem.W.nsIn K mainGlobals "min" = some none)
    (z_tuple : PySem.W.nsIn K mainGlobals "tuple" = some none)
    (z_range : PySem.W.nsIn K mainGlobals "range" = some none)
    (z_max : PySem.W.nsIn K mainGlobals "max" = some none)
    (z_abs : PySem.W.nsIn K mainGlobals "abs" = some none)
    (z_int : PySem.W.nsIn K mainGlobals "int" = some none)
    (z_len : PySem.W.nsIn K mainGlobals "len" = some none)
    (z_isinstance : PySem.W.nsIn K mainGlobals "isinstance" = some none)
    (z_bool : PySem.W.nsIn K mainGlobals "bool" = some none)
    (z_str : PySem.W.nsIn K mainGlobals "str" = some none)
    (z_list : PySem.W.nsIn K mainGlobals "list" = some none)
    (z_sum : PySem.W.nsIn K mainGlobals "sum" = some none)
    (g_WHOLE : PySem.W.nsIn K mainGlobals "WHOLE" = some (some (.int 100 t_WHOLE)))
    (g_FAR : PySem.W.nsIn K mainGlobals "FAR" = some (some (.int 2001 t_FAR))) :
    ∃ fd : FuncData, (∀ (s : Shared) (v : Value), BindsTo s fd ⟨[v], []⟩ [("script", v)]) ∧ ∀ base : Heap, K.In base → base.Ns mainGlobals mg → FnOk l.prog w K mg base CX0 8 fa fd ["script"] (spD ⟨l.prog, w, K⟩ 1 f_law) := by
  have e := hfa.symm.trans (PySem.W.mg_of X G a_law)
  cases e
  have Z : ZZ mg := ⟨PySem.W.mg_none_of X G z_all, PySem.W.mg_none_of X G z_zip, PySem.W.mg_none_of X G z_min, PySem.W.mg_none_of X G z_tuple, PySem.W.mg_none_of X G z_range, PySem.W.mg_none_of X G z_max, PySem.W.mg_none_of X G z_abs, PySem.W.mg_none_of X G z_int, PySem.W.mg_none_of X G z_len, PySem.W.mg_none_of X G z_isinstance, PySem.W.mg_none_of X G z_bool, PySem.W.mg_none_of X G z_str, PySem.W.mg_none_of X G z_list, PySem.W.mg_none_of X G z_sum⟩
  have G_WHOLE := PySem.W.mg_of X G g_WHOLE
  have G_FAR := PySem.W.mg_of X G g_FAR
  have F_has_all := fun_mk (st := s_has_all) l_has_all c_has_all k_has_all
  have b_has_all := F_has_all.binds (ps := ["zones", "some"]) fun _ _ _ _ _ _ us hl => match us, hl with | [_, _], _ => rfl
  have F_holds := fun_mk (st := s_holds) l_holds c_holds k_holds
  have b_holds := F_holds.binds (ps := ["one", "ride"]) fun _ _ _ _ _ _ us hl => match us, hl with | [_, _], _ => rfl
  have F_prices_of_lots := fun_mk (st := s_prices_of_lots) l_prices_of_lots c_prices_of_lots k_prices_of_lots
  have b_prices_of_lots := F_prices_of_lots.binds (ps := ["passes"]) fun _ _ _ _ _ _ us hl => match us, hl with | [_], _ => rfl
  have F_hits_of := fun_mk (st := s_hits_of) l_hits_of c_hits_of k_hits_of
  have b_hits_of := F_hits_of.binds (ps := ["passes", "ride"]) fun _ _ _ _ _ _ us hl => match us, hl with | [_, _], _ => rfl
  have F_with_ride := fun_mk (st := s_with_ride) l_with_ride c_with_ride k_with_ride
  have b_with_ride := F_with_ride.binds (ps := ["costs", "passes", "ride"]) fun _ _ _ _ _ _ us hl => match us, hl with | [_, _, _], _ => rfl
  have F_costs_of_lots := fun_mk (st := s_costs_of_lots) l_costs_of_lots c_costs_of_lots k_costs_of_lots
  have b_costs_of_lots := F_costs_of_lots.binds (ps := ["passes", "rides"]) fun _ _ _ _ _ _ us hl => match us, hl with | [_, _], _ => rfl
  have F_best_price := fun_mk (st := s_best_price) l_best_price c_best_price k_best_price
  have b_best_price := F_best_price.binds (ps := ["passes", "rides"]) fun _ _ _ _ _ _ us hl => match us, hl with | [_, _], _ => rfl
  have F_least_above := fun_mk (st := s_least_above) l_least_above c_least_above k_least_above
  have b_least_above := F_least_above.binds (ps := ["over", "under"]) fun _ _ _ _ _ _ us hl => match us, hl with | [_, _], _ => rfl
  have F_reduced := fun_mk (st := s_reduced) l_reduced c_reduced k_reduced
  have b_reduced := F_reduced.binds (ps := ["card", "fare"]) fun _ _ _ _ _ _ us hl => match us, hl with | [_, _], _ => rfl
  have F_reduced_rides := fun_mk (st := s_reduced_rides) l_reduced_rides c_reduced_rides k_reduced_rides
  have b_reduced_rides := F_reduced_rides.binds (ps := ["card", "rides"]) fun _ _ _ _ _ _ us hl => match us, hl with | [_, _], _ => rfl
  have F_paid_with := fun_mk (st := s_paid_with) l_paid_with c_paid_with k_paid_with
  have b_paid_with := F_paid_with.binds (ps := ["passes", "card", "rides"]) fun _ _ _ _ _ _ us hl => match us, hl with | [_, _, _], _ => rfl
  have F_common_steps := fun_mk (st := s_common_steps) l_common_steps c_common_steps k_common_steps
  have b_common_steps := F_common_steps.binds (ps := ["one", "other"]) fun _ _ _ _ _ _ us hl => match us, hl with | [_, _], _ => rfl
  have F_first_dearer_fare := fun_mk (st := s_first_dearer_fare) l_first_dearer_fare c_first_dearer_fare k_first_dearer_fare
  have b_first_dearer_fare := F_first_dearer_fare.binds (ps := ["card", "other"]) fun _ _ _ _ _ _ us hl => match us, hl with | [_, _], _ => rfl
  have F_first_worse := fun_mk (st := s_first_worse) l_first_worse c_first_worse k_first_worse
  have b_first_worse := F_first_worse.binds (ps := ["card", "other"]) fun _ _ _ _ _ _ us hl => match us, hl with | [_, _], _ => rfl
  have F_is_never_worse := fun_mk (st := s_is_never_worse) l_is_never_worse c_is_never_worse k_is_never_worse
  have b_is_never_worse := F_is_never_worse.binds (ps := ["card", "other"]) fun _ _ _ _ _ _ us hl => match us, hl with | [_, _], _ => rfl
  have F__law_bag := fun_mk (st := s__law_bag) l__law_bag c__law_bag k__law_bag
  have b__law_bag := F__law_bag.binds (ps := ["script"]) fun _ _ _ _ _ _ us hl => match us, hl with | [_], _ => rfl
  have F__law_take := fun_mk (st := s__law_take) l__law_take c__law_take k__law_take
  have b__law_take := F__law_take.binds (ps := ["bag", "many"]) fun _ _ _ _ _ _ us hl => match us, hl with | [_, _], _ => rfl
  have F__law_some := fun_mk (st := s__law_some) l__law_some c__law_some k__law_some
  have b__law_some := F__law_some.binds (ps := ["bag", "things"]) fun _ _ _ _ _ _ us hl => match us, hl with | [_, _], _ => rfl
  have F__law_same := fun_mk (st := s__law_same) l__law_same c__law_same k__law_same
  have b__law_same := F__law_same.binds (ps := ["found", "due"]) fun _ _ _ _ _ _ us hl => match us, hl with | [_, _], _ => rfl
  have F__law_reduced := fun_mk (st := s__law_reduced) l__law_reduced c__law_reduced k__law_reduced
  have b__law_reduced := F__law_reduced.binds (ps := ["card", "fare"]) fun _ _ _ _ _ _ us hl => match us, hl with | [_, _], _ => rfl
  have F__law_pair := fun_mk (st := s__law_pair) l__law_pair c__law_pair k__law_pair
  have b__law_pair := F__law_pair.binds (ps := ["bag"]) fun _ _ _ _ _ _ us hl => match us, hl with | [_], _ => rfl
  have F__law_common := fun_mk (st := s__law_common) l__law_common c__law_common k__law_common
  have b__law_common := F__law_common.binds (ps := ["one", "other"]) fun _ _ _ _ _ _ us hl => match us, hl with | [_, _], _ => rfl
  have F_law := fun_mk (st := s_law) l_law c_law k_law
  refine ⟨PySem.W.fnOf "law" "law" (defArgs s_law) (defBody s_law) (defScope s_law) .none kV_law dc_law pm_law an_law cd_law ct_law, fun s v => .of_eq rfl, fun base _ _ => ?_⟩
  have h_has_all := FnHas.mk' F_has_all (PySem.W.mg_of X G a_has_all) b_has_all (ok_has_all (P := l.prog) (w := w) (base := base) F_has_all Z)
  have h_holds := FnHas.mk' F_holds (PySem.W.mg_of X G a_holds) b_holds (ok_holds (P := l.prog) (w := w) (base := base) F_holds Z h_has_all)
  have h_prices_of_lots := FnHas.mk' F_prices_of_lots (PySem.W.mg_of X G a_prices_of_lots) b_prices_of_lots (ok_prices_of_lots (P := l.prog) (w := w) (base := base) F_prices_of_lots Z)
  have h_hits_of := FnHas.mk' F_hits_of (PySem.W.mg_of X G a_hits_of) b_hits_of (ok_hits_of (P := l.prog) (w := w) (base := base) F_hits_of Z h_holds)
  have h_with_ride := FnHas.mk' F_with_ride (PySem.W.mg_of X G a_with_ride) b_with_ride (ok_with_ride (P := l.prog) (w := w) (base := base) F_with_ride Z h_hits_of)
  have h_costs_of_lots := FnHas.mk' F_costs_of_lots (PySem.W.mg_of X G a_costs_of_lots) b_costs_of_lots (ok_costs_of_lots (P := l.prog) (w := w) (base := base) F_costs_of_lots Z h_prices_of_lots h_with_ride)
  have h_best_price := FnHas.mk' F_best_price (PySem.W.mg_of X G a_best_price) b_best_price (ok_best_price (P := l.prog) (w := w) (base := base) F_best_price Z h_costs_of_lots)
  have h_least_above := FnHas.mk' F_least_above (PySem.W.mg_of X G a_least_above) b_least_above (ok_least_above (P := l.prog) (w := w) (base := base) F_least_above Z)
  have h_reduced := FnHas.mk' F_reduced (PySem.W.mg_of X G a_reduced) b_reduced (ok_reduced (P := l.prog) (w := w) (base := base) F_reduced Z ⟨_, G_WHOLE⟩ h_least_above)
  have h_reduced_rides := FnHas.mk' F_reduced_rides (PySem.W.mg_of X G a_reduced_rides) b_reduced_rides (ok_reduced_rides (P := l.prog) (w := w) (base := base) F_reduced_rides Z h_reduced)
  have h_paid_with := FnHas.mk' F_paid_with (PySem.W.mg_of X G a_paid_with) b_paid_with (ok_paid_with (P := l.prog) (w := w) (base := base) F_paid_with Z h_best_price h_reduced_rides)
  have h_common_steps := FnHas.mk' F_common_steps (PySem.W.mg_of X G a_common_steps) b_common_steps (ok_common_steps (P := l.prog) (w := w) (base := base) F_common_steps Z)
  have h_first_dearer_fare := FnHas.mk' F_first_dearer_fare (PySem.W.mg_of X G a_first_dearer_fare) b_first_dearer_fare (ok_first_dearer_fare (P := l.prog) (w := w) (base := base) F_first_dearer_fare Z ⟨_, G_FAR⟩ ⟨_, G_WHOLE⟩ h_common_steps h_reduced)
  have h_first_worse := FnHas.mk' F_first_worse (PySem.W.mg_of X G a_first_worse) b_first_worse (ok_first_worse (P := l.prog) (w := w) (base := base) F_first_worse Z h_first_dearer_fare h_reduced)
  have h_is_never_worse := FnHas.mk' F_is_never_worse (PySem.W.mg_of X G a_is_never_worse) b_is_never_worse (ok_is_never_worse (P := l.prog) (w := w) (base := base) F_is_never_worse Z h_first_worse)
  have h__law_bag := FnHas.mk' F__law_bag (PySem.W.mg_of X G a__law_bag) b__law_bag (ok__law_bag (P := l.prog) (w := w) (base := base) F__law_bag Z)
  have h__law_take := FnHas.mk' F__law_take (PySem.W.mg_of X G a__law_take) b__law_take (ok__law_take (P := l.prog) (w := w) (base := base) F__law_take Z)
  have h__law_some := FnHas.mk' F__law_some (PySem.W.mg_of X G a__law_some) b__law_some (ok__law_some (P := l.prog) (w := w) (base := base) F__law_some Z h__law_take)
  have h__law_same := FnHas.mk' F__law_same (PySem.W.mg_of X G a__law_same) b__law_same (ok__law_same (P := l.prog) (w := w) (base := base) F__law_same Z)
  have h__law_reduced := FnHas.mk' F__law_reduced (PySem.W.mg_of X G a__law_reduced) b__law_reduced (ok__law_reduced (P := l.prog) (w := w) (base := base) F__law_reduced Z)
  have h__law_pair := FnHas.mk' F__law_pair (PySem.W.mg_of X G a__law_pair) b__law_pair (ok__law_pair (P := l.prog) (w := w) (base := base) F__law_pair Z h__law_some h__law_take)
  have h__law_common := FnHas.mk' F__law_common (PySem.W.mg_of X G a__law_common) b__law_common (ok__law_common (P := l.prog) (w := w) (base := base) F__law_common Z)
  exact ok_law (P := l.prog) (w := w) (base := base) F_law Z h__law_bag h__law_pair h__law_common h__law_reduced h_first_worse h__law_same h_is_never_worse h_reduced h__law_some h__law_take h_paid_with
end Lk65

set_option maxHeartbeats 4000000
namespace Lk65
open PySem PySem.Spec PyProof.Rows L2 DL
/-! ### the shared drawing -/
theorem e_take : f__law_take = BG.f_take := rfl
theorem e_some : f__law_some = BG.f_some := rfl
theorem e_same : f__law_same = BG.f_same := rfl
theorem e_bag : f__law_bag = BG.f_bag := rfl
/-! ### ranges -/
theorem rangeP_zero {lo c : Int} : rangeP lo c 0 = [] := rfl
theorem rangeP_succ {lo : Int} {n : Nat} : rangeP lo 1 (n + 1) = .int lo :: rangeP (lo + 1) 1 n := by
  unfold rangeP
  rw [List.range_succ_eq_map, List.map_cons, List.map_map]
  simp only [List.cons.injEq]
  refine ⟨by simp, List.map_congr_left fun i _ => ?_⟩
  simp
  omega
def firstD (g : Int → Bool) : Int → Nat → Option Int
  | _, 0 => none
  | lo, n + 1 => if g lo = true then some lo else firstD g (lo + 1) n
theorem firstD_some {g : Int → Bool} : ∀ {n : Nat} {lo f : Int}, firstD g lo n = some f → lo ≤ f ∧ f < lo + n ∧ g f = true ∧ ∀ x, lo ≤ x → x < f → g x = false
  | 0, _, _, h => nomatch h
  | n + 1, lo, f, h => by
    unfold firstD at h
    split at h
    · rename_i hg
      cases h
      exact ⟨Int.le_refl _, by omega, hg, fun x _ _ => by omega⟩
    · rename_i hg
      obtain ⟨h1, h2, h3, h4⟩ := firstD_some h
      refine ⟨by omega, by omega, h3, fun x q1 q2 => ?_⟩
      by_cases hx : x = lo
      · subst hx; simpa using hg
      · exact h4 x (by omega) q2
theorem firstD_none {g : Int → Bool} : ∀ {n : Nat} {lo : Int}, firstD g lo n = none → ∀ x, lo ≤ x → x < lo + n → g x = false
  | 0, _, _, x, q1, q2 => by omega
  | n + 1, lo, h, x, q1, q2 => by
    unfold firstD at h
    split at h
    · cases h
    · rename_i hg
      by_cases hx : x = lo
      · subst hx; simpa using hg
      · exact firstD_none h x (by omega) (by omega)
/-! ### rounding -/
def red (p s f : Int) : Int := s * (-(-(f * (100 - p)) / (100 * s)))
def card (c p s : Int) : PD := .tuple [.int c, .int p, .int s]
section
variable {G : Sto} {c p s f : Int}
theorem ev_least_above (a b : Int) (hb : divOk b = true) : f_least_above [.py (.int a), .py (.int b)] G = .ok (.py (.int (-(-a / b)))) G := by
  simp [f_least_above, d_least_above, hb]
theorem ev_reduced (hp : 0 ≤ p) (hp2 : p ≤ 100) (hs : 0 < s) (hs2 : s ≤ 1000) : f_reduced [.py (card c p s), .py (.int f)] G = .ok (.py (.int (red p s f))) G := by
  have h1 : mulI f (100 - p) = some (.int (f * (100 - p))) := mulI_ok (mulOk_r (by omega) (by omega))
  have h2 : mulI 100 s = some (.int (100 * s)) := mulI_ok (mulOk_l (by omega) (by omega))
  have h3 : ∀ x, mulI s x = some (.int (s * x)) := fun x => mulI_ok (mulOk_l (by omega) (by omega))
  simp [f_reduced, d_reduced, card, red, h1, h2, h3, ev_least_above, divOk_of (j := 100 * s) (by omega) (by omega)]
theorem ev_law_reduced (hp : 0 ≤ p) (hp2 : p ≤ 100) (hs : 0 < s) (hs2 : s ≤ 1000) : f__law_reduced [.py (card c p s), .py (.int f)] G = .ok (.py (.int (red p s f))) G := by
  have h1 : mulI f (100 - p) = some (.int (f * (100 - p))) := mulI_ok (mulOk_r (by omega) (by omega))
  have h2 : mulI 100 s = some (.int (100 * s)) := mulI_ok (mulOk_l (by omega) (by omega))
  have h3 : ∀ x, mulI x s = some (.int (x * s)) := fun x => mulI_ok (mulOk_r (by omega) (by omega))
  simp [f__law_reduced, d__law_reduced, card, red, h1, h2, h3, divOk_of (j := 100 * s) (by omega) (by omega)]
  exact Int.mul_comm _ _
end
theorem red_zero {p s : Int} : red p s 0 = 0 := by simp [red]
theorem red_add {p s f t : Int} (hs : 0 < s) : red p s (f + 100 * (s * t)) = red p s f + s * t * (100 - p) := by
  unfold red
  have e : -((f + 100 * (s * t)) * (100 - p)) = -(f * (100 - p)) + (-(t * (100 - p))) * (100 * s) := by grind
  rw [e, Int.add_mul_ediv_right _ _ (by omega), Int.neg_add, Int.neg_neg, Int.mul_add, ← Int.mul_assoc]
theorem red_le {p s f : Int} (hp : 0 ≤ p) (hp2 : p ≤ 100) (hs : 0 < s) (hs2 : s ≤ 20) (hf : 0 ≤ f) (hf2 : f ≤ 100000) : 0 ≤ red p s f ∧ red p s f ≤ 1000000000 := by
  have h1 : 0 ≤ f * (100 - p) := Int.mul_nonneg hf (by omega)
  have h2 : f * (100 - p) ≤ 100000 * 100 := Int.mul_le_mul hf2 (by omega) (by omega) (by omega)
  have h3 : -(f * (100 - p)) / (100 * s) ≤ 0 := by
    have := Int.ediv_le_ediv (a := -(f * (100 - p))) (b := 0) (c := 100 * s) (by omega) (by omega)
    simpa using this
  have h4 : -(f * (100 - p)) ≤ -(f * (100 - p)) / (100 * s) := by
    rw [Int.le_ediv_iff_mul_le (by omega)]
    have : -(f * (100 - p)) * (100 * s) ≤ -(f * (100 - p)) * 1 := Int.mul_le_mul_of_nonpos_left (by omega) (by omega)
    omega
  unfold red
  refine ⟨Int.mul_nonneg (by omega) (by omega), ?_⟩
  have h5 : s * -(-(f * (100 - p)) / (100 * s)) ≤ 20 * (100000 * 100) := Int.mul_le_mul hs2 (by omega) (by omega) (by omega)
  omega
/-! ### the common step -/
def itc (a b : Int) : Nat → Int → Int
  | 0, x => x
  | n + 1, x => itc a b n (x + if x % b = 0 then 0 else a)
def com (a b : Int) : Int := itc a b 20 a
def mults (a b : Int) : List PD := (rangeP a a (Builtin.Range.rangeSize a (a * b + 1) a).toNat).filter (fun d => match d with | .int i => decide (i % b = 0) | _ => false)
def comOk (a b : Int) : Bool := (match mults a b with | .int i :: _ => decide (i = com a b) | _ => false) && decide (com a b % a = 0) && decide (com a b % b = 0) && decide (a ≤ com a b) && decide (com a b ≤ 400)
  && Builtin.Range.small a (a * b + 1) a
def all20 (P : Int → Bool) : Bool := (List.range 20).all fun n => P (n + 1)
theorem all20_of {P : Int → Bool} (h : all20 P = true) {a : Int} (h1 : 1 ≤ a) (h2 : a ≤ 20) : P a = true := by
  have := List.all_eq_true.mp h (a - 1).toNat (List.mem_range.mpr (by omega))
  rw [show (((a - 1).toNat : Int) + 1) = a by omega] at this
  exact this
theorem com_ok {a b : Int} (h1 : 1 ≤ a) (h2 : a ≤ 20) (h3 : 1 ≤ b) (h4 : b ≤ 20) : comOk a b = true := by
  have h : all20 (fun a => all20 fun b => comOk a b) = true := by decide +kernel
  exact all20_of (P := fun b => comOk a b) (all20_of (P := fun a => all20 fun b => comOk a b) h h1 h2) h3 h4
theorem com_facts {a b : Int} (h1 : 1 ≤ a) (h2 : a ≤ 20) (h3 : 1 ≤ b) (h4 : b ≤ 20) : (∃ t, com a b = a * t) ∧ (∃ t, com a b = b * t) ∧ 1 ≤ com a b ∧ com a b ≤ 400 := by
  have h := com_ok h1 h2 h3 h4
  unfold comOk at h
  simp only [Bool.and_eq_true, decide_eq_true_eq] at h
  obtain ⟨⟨⟨⟨⟨q0, q1⟩, q2⟩, q3⟩, q4⟩, q5⟩ := h
  exact ⟨⟨com a b / a, by have := Int.mul_ediv_add_emod (com a b) a; omega⟩, ⟨com a b / b, by have := Int.mul_ediv_add_emod (com a b) b; omega⟩, by omega, q4⟩
theorem com_loop {a b : Int} {G : Sto} (hb : 0 < b) : ∀ (ds : List PD) (x : Int) (s3 : Slot), (∀ d ∈ ds, ∃ i, d = .int i) → ∃ s3', forL (bName 3) d__law_common_1 ds [.val (.py (.int a)), .val (.py (.int b)), .val (.py (.int x)), s3] G = .nx [.val (.py (.int a)), .val (.py (.int b)), .val (.py (.int (itc a b ds.length x))), s3'] G
  | [], x, s3, _ => ⟨s3, rfl⟩
  | d :: ds, x, s3, h => by
    obtain ⟨i, rfl⟩ := h d List.mem_cons_self
    obtain ⟨s', e⟩ := com_loop hb ds (x + if x % b = 0 then 0 else a) (.val (.py (.int i))) fun d hd => h d (List.mem_cons_of_mem _ hd)
    refine ⟨s', ?_⟩
    rw [forL_cons]
    by_cases hx : x % b = 0
    · simp [d__law_common_1, hb, hx, itc] at e ⊢
      exact e
    · simp [d__law_common_1, hb, hx, itc] at e ⊢
      exact e
theorem rangeP_int {lo c : Int} {n : Nat} : ∀ d ∈ rangeP lo c n, ∃ i, d = .int i := fun d hd => by
  obtain ⟨i, _, rfl⟩ := List.mem_map.mp hd
  exact ⟨_, rfl⟩
theorem ev_law_common {a b : Int} {G : Sto} (hb : 0 < b) : f__law_common [.py (.int a), .py (.int b)] G = .ok (.py (.int (com a b))) G := by
  obtain ⟨s', e⟩ := com_loop (a := a) (G := G) hb (rangeP 0 1 20) a .none rangeP_int
  rw [rangeP_length] at e
  simp [f__law_common, d__law_common, show endOk 20 = true from by decide, e, com]
theorem ev_common_steps {a b : Int} {G : Sto} (h1 : 1 ≤ a) (h2 : a ≤ 20) (h3 : 1 ≤ b) (h4 : b ≤ 20) : f_common_steps [.py (.int a), .py (.int b)] G = .ok (.py (.int (com a b))) G := by
  have h := com_ok h1 h2 h3 h4
  unfold comOk at h
  simp only [Bool.and_eq_true, decide_eq_true_eq] at h
  obtain ⟨⟨⟨⟨⟨q0, q1⟩, q2⟩, q3⟩, q4⟩, q5⟩ := h
  have hr : rng3 [.py (.int a), .py (.int (a * b + 1)), .py (.int a)] = some (rangeP a a (Builtin.Range.rangeSize a (a * b + 1) a).toNat) := by
    rw [rng3_int, if_pos (by simp only [Bool.and_eq_true, decide_eq_true_eq]; exact ⟨⟨by omega, by omega⟩, q5⟩)]
  have hm : mulI a b = some (.int (a * b)) := mulI_ok (mulOk_l (by omega) (by omega))
  have hl := lcL_filter (b := bName 2) (test := dBol (dOp eqW (dOp modW (dVar 2) (dVar 1)) (dC (.int 0)))) (elt := dVar 2) (ρ := [.val (.py (.int a)), .val (.py (.int b)), .none]) (G := G)
    (fun d => match d with | .int i => decide (i % b = 0) | _ => false) (fun d => d) (ds := rangeP a a (Builtin.Range.rangeSize a (a * b + 1) a).toNat) fun d hd => by
      obtain ⟨i, rfl⟩ := rangeP_int d hd
      exact ⟨_, rfl, by simp [show 0 < b by omega], fun _ => by simp⟩
  have hz : (rangeP a a (Builtin.Range.rangeSize a (a * b + 1) a).toNat).length ≤ 16777216 := by
    rw [rangeP_length]
    have := rangeSize_toNat_le a (a * b + 1) a
    have h5 : a * b ≤ 20 * 20 := Int.mul_le_mul h2 h4 (by omega) (by omega)
    have h6 : 0 ≤ a * b := Int.mul_nonneg (by omega) (by omega)
    omega
  rw [List.map_id'] at hl
  simp only [f_common_steps, d_common_steps, fnD_app, fm0_app, ev_sRet, ev_op, ev_fz, ev_lc, ev_rng, ev_cons, ev_nil]
  have e0 : ∃ l, mults a b = .int (com a b) :: l := by
    cases e : mults a b with
    | nil => rw [e] at q0; cases q0
    | cons d l =>
      rw [e] at q0
      cases d with
      | int i => exact ⟨l, by rw [show i = com a b by simpa using q0]⟩
      | none => cases q0
      | bool b => cases q0
      | str b => cases q0
      | list b => cases q0
      | tuple b => cases q0
      | dict b => cases q0
  obtain ⟨l, e0⟩ := e0
  have hl2 : lcL (bName 2) (dBol (dOp eqW (dOp modW (dVar 2) (dVar 1)) (dC (.int 0)))) (dVar 2) [.val (.py (.int a)), .val (.py (.int b)), .none] (rangeP a a (Builtin.Range.rangeSize a (a * b + 1) a).toNat) G = .ok (.int (com a b) :: l) G := by
    rw [hl, ← e0]; rfl
  simp [hr, hm, hz, hl2]
/-! ### the first dearer fare -/
/-- a card as the law draws it -/
structure CardOk (c p s : Int) : Prop where
  c0 : 0 ≤ c
  c1 : c ≤ 1000
  p0 : 1 ≤ p
  p1 : p ≤ 99
  s0 : 1 ≤ s
  s1 : s ≤ 20
def dearer (p1 s1 p2 s2 : Int) (f : Int) : Bool := decide (red p2 s2 f < red p1 s1 f)
section
variable {G : Sto} {c1 p1 s1 c2 p2 s2 : Int}
theorem first_loop (k1 : CardOk c1 p1 s1) (k2 : CardOk c2 p2 s2) : ∀ (n : Nat) (lo m : Int) (sl : Slot), (∃ f, firstD (dearer p1 s1 p2 s2) lo n = some f ∧ forL (bName 3) d_first_dearer_fare_1 (rangeP lo 1 n) [.val (.py (card c1 p1 s1)), .val (.py (card c2 p2 s2)), .val (.py (.int m)), sl] G = .rt (.py (.int f)) G) ∨
    (firstD (dearer p1 s1 p2 s2) lo n = none ∧ ∃ sl', forL (bName 3) d_first_dearer_fare_1 (rangeP lo 1 n) [.val (.py (card c1 p1 s1)), .val (.py (card c2 p2 s2)), .val (.py (.int m)), sl] G = .nx [.val (.py (card c1 p1 s1)), .val (.py (card c2 p2 s2)), .val (.py (.int m)), sl'] G)
  | 0, lo, m, sl => .inr ⟨rfl, sl, rfl⟩
  | n + 1, lo, m, sl => by
    have e1 := fun f => ev_reduced (G := G) (c := c1) (f := f) (show 0 ≤ p1 by have := k1.p0; omega) (show p1 ≤ 100 by have := k1.p1; omega) (show 0 < s1 by have := k1.s0; omega) (show s1 ≤ 1000 by have := k1.s1; omega)
    have e2 := fun f => ev_reduced (G := G) (c := c2) (f := f) (show 0 ≤ p2 by have := k2.p0; omega) (show p2 ≤ 100 by have := k2.p1; omega) (show 0 < s2 by have := k2.s0; omega) (show s2 ≤ 1000 by have := k2.s1; omega)
    rw [rangeP_succ, forL_cons]
    unfold firstD
    by_cases hd : red p2 s2 lo < red p1 s1 lo
    · exact .inl ⟨lo, by rw [if_pos (by simp [dearer, hd])], by simp [d_first_dearer_fare_1, e1, e2, hd]⟩
    · rw [if_neg (by simp [dearer, hd])]
      have ih := first_loop k1 k2 n (lo + 1) m (.val (.py (.int lo)))
      simpa [d_first_dearer_fare_1, e1, e2, hd] using ih
/-- None, or an int -/
def optD : Option Int → PD
  | some f => .int f
  | none => .none
def most (s1 s2 : Int) : Int := if 100 * com s1 s2 > 2001 then 100 * com s1 s2 else 2001
theorem ev_first_dearer (k1 : CardOk c1 p1 s1) (k2 : CardOk c2 p2 s2) : f_first_dearer_fare [.py (card c1 p1 s1), .py (card c2 p2 s2)] G = .ok (.py (optD (firstD (dearer p1 s1 p2 s2) 1 (most s1 s2).toNat))) G := by
  have hc := com_facts k1.s0 k1.s1 k2.s0 k2.s1
  have e1 := ev_common_steps (G := G) k1.s0 k1.s1 k2.s0 k2.s1
  have hm : mulI 100 (com s1 s2) = some (.int (100 * com s1 s2)) := mulI_ok (mulOk_l (by omega) (by omega))
  have he : endOk (most s1 s2 + 1) = true := by
    unfold endOk most
    simp only [Bool.and_eq_true, decide_eq_true_eq]
    split <;> omega
  have h1 : endOk 1 = true := by decide
  have hl := first_loop (G := G) k1 k2 (most s1 s2).toNat 1 (most s1 s2) .none
  unfold card at *
  rcases hl with ⟨f, q1, q2⟩ | ⟨q1, sl, q2⟩
  · rw [q1]
    simp [f_first_dearer_fare, d_first_dearer_fare, e1, hm, h1]
    rw [← most, he, if_pos rfl]
    simp [q2, optD]
  · rw [q1]
    simp [f_first_dearer_fare, d_first_dearer_fare, e1, hm, h1]
    rw [← most, he, if_pos rfl]
    simp [q2, optD]
theorem most_le (k1 : CardOk c1 p1 s1) (k2 : CardOk c2 p2 s2) : 2001 ≤ most s1 s2 ∧ most s1 s2 ≤ 40000 ∧ 100 * com s1 s2 ≤ most s1 s2 := by
  have hc := com_facts k1.s0 k1.s1 k2.s0 k2.s1
  unfold most
  split <;> omega
def fw (c1 p1 s1 c2 p2 s2 : Int) : PD := if c2 < c1 then .tuple [.int 0, .int 0] else match firstD (dearer p1 s1 p2 s2) 1 (most s1 s2).toNat with
  | none => .none
  | some f => .tuple [.int f, .int ((c2 - c1) / (red p1 s1 f - red p2 s2 f) + 1)]
theorem more_ok (k1 : CardOk c1 p1 s1) (k2 : CardOk c2 p2 s2) {f : Int} (h1 : 0 ≤ f) (h2 : f ≤ 100000) (hd : dearer p1 s1 p2 s2 f = true) : 0 < red p1 s1 f - red p2 s2 f ∧ divOk (red p1 s1 f - red p2 s2 f) = true := by
  have r1 := red_le (p := p1) (s := s1) (f := f) (by have := k1.p0; omega) (by have := k1.p1; omega) (by have := k1.s0; omega) k1.s1 h1 h2
  have r2 := red_le (p := p2) (s := s2) (f := f) (by have := k2.p0; omega) (by have := k2.p1; omega) (by have := k2.s0; omega) k2.s1 h1 h2
  have hd : red p2 s2 f < red p1 s1 f := by simpa [dearer] using hd
  exact ⟨by omega, divOk_of (by omega) (by omega)⟩
theorem ev_first_worse (k1 : CardOk c1 p1 s1) (k2 : CardOk c2 p2 s2) : f_first_worse [.py (card c1 p1 s1), .py (card c2 p2 s2)] G = .ok (.py (fw c1 p1 s1 c2 p2 s2)) G := by
  have e0 := ev_first_dearer (G := G) k1 k2
  have e1 := fun f => ev_reduced (G := G) (c := c1) (f := f) (show 0 ≤ p1 by have := k1.p0; omega) (show p1 ≤ 100 by have := k1.p1; omega) (show 0 < s1 by have := k1.s0; omega) (show s1 ≤ 1000 by have := k1.s1; omega)
  have e2 := fun f => ev_reduced (G := G) (c := c2) (f := f) (show 0 ≤ p2 by have := k2.p0; omega) (show p2 ≤ 100 by have := k2.p1; omega) (show 0 < s2 by have := k2.s0; omega) (show s2 ≤ 1000 by have := k2.s1; omega)
  unfold fw
  by_cases hc : c2 < c1
  · rw [if_pos hc]
    unfold card at *
    simp [f_first_worse, d_first_worse, hc]
  · rw [if_neg hc]
    cases hf : firstD (dearer p1 s1 p2 s2) 1 (most s1 s2).toNat with
    | none =>
      rw [hf] at e0
      unfold card at *
      simp [f_first_worse, d_first_worse, hc, e0, optD]
    | some f =>
      obtain ⟨g1, g2, g3, _⟩ := firstD_some hf
      have hm := most_le k1 k2
      have hmo := more_ok k1 k2 (f := f) (by omega) (by omega) g3
      rw [hf] at e0
      unfold card at *
      simp [f_first_worse, d_first_worse, hc, e0, optD, e1, e2, hmo.2]
def nev (c1 p1 s1 c2 p2 s2 : Int) : Bool := isNon (.py (fw c1 p1 s1 c2 p2 s2))
theorem ev_never (k1 : CardOk c1 p1 s1) (k2 : CardOk c2 p2 s2) : f_is_never_worse [.py (card c1 p1 s1), .py (card c2 p2 s2)] G = .ok (.py (.bool (nev c1 p1 s1 c2 p2 s2))) G := by
  have e0 := ev_first_worse (G := G) k1 k2
  unfold card at *
  simp [f_is_never_worse, d_is_never_worse, e0, nev]
end
/-! ### what a purse of rides costs -/
def rideD (f : Int) : PD := .tuple [.tuple [.int 1], .int f]
section
variable {G : Sto}
theorem ev_hits (d : PD) : f_hits_of [.py (.tuple []), .py d] G = .ok (.py (.list [.bool false])) G := by
  simp [f_hits_of, d_hits_of, forL_nil]
theorem ev_with (x f : Int) (z : PD) : f_with_ride [.py (.list [.int x]), .py (.tuple []), .py (.tuple [z, .int f])] G = .ok (.py (.list [.int (x + f)])) G := by
  have h := ev_hits (G := G) (.tuple [z, .int f])
  simp [f_with_ride, d_with_ride, h, zipP, lcL, pyW]
theorem costs_loop {rs : PD} : ∀ (fs : List Int) (x : Int) (sl : Slot), ∃ sl', forL (bName 3) d_costs_of_lots_1 (fs.map rideD) [.val (.py (.tuple [])), .val (.py rs), .val (.py (.list [.int x])), sl] G = .nx [.val (.py (.tuple [])), .val (.py rs), .val (.py (.list [.int (x + fs.sum)])), sl'] G
  | [], x, sl => ⟨sl, by simp [forL_nil]⟩
  | f :: fs, x, sl => by
    obtain ⟨sl', e⟩ := costs_loop (rs := rs) fs (x + f) (.val (.py (rideD f)))
    refine ⟨sl', ?_⟩
    rw [List.map_cons, forL_cons]
    have h := ev_with (G := G) x f (.tuple [.int 1])
    simp [d_costs_of_lots_1, rideD] at e h ⊢
    simp [h, e, Int.add_assoc]
theorem ev_costs (fs : List Int) : f_costs_of_lots [.py (.tuple []), .py (.tuple (fs.map rideD))] G = .ok (.py (.list [.int fs.sum])) G := by
  obtain ⟨sl', e⟩ := costs_loop (G := G) (rs := .tuple (fs.map rideD)) fs 0 .none
  have h : f_prices_of_lots [.py (.tuple [])] G = .ok (.py (.list [.int 0])) G := by simp [f_prices_of_lots, d_prices_of_lots, forL_nil]
  simp [f_costs_of_lots, d_costs_of_lots, h, e]
theorem ev_best (fs : List Int) : f_best_price [.py (.tuple []), .py (.tuple (fs.map rideD))] G = .ok (.py (.int fs.sum)) G := by
  simp [f_best_price, d_best_price, ev_costs, intsOf, minI]
theorem ev_rides {c p s : Int} (k : CardOk c p s) (fs : List Int) (hz : fs.length ≤ 1000) : f_reduced_rides [.py (card c p s), .py (.tuple (fs.map rideD))] G = .ok (.py (.tuple ((fs.map (red p s)).map rideD))) G := by
  have e1 := fun f => ev_reduced (G := G) (c := c) (f := f) (show 0 ≤ p by have := k.p0; omega) (show p ≤ 100 by have := k.p1; omega) (show 0 < s by have := k.s0; omega) (show s ≤ 1000 by have := k.s1; omega)
  have hl := lcL_map (b := bTup 2 (bCons (bName 2) (bCons (bName 3) bNil))) (elt := dTup (dCons (dVar 2) (dCons (dCall 2 f_reduced (dCons (dVar 0) (dCons (dVar 3) dNil))) dNil))) (ρ := [.val (.py (card c p s)), .val (.py (.tuple (fs.map rideD))), .none, .none]) (G := G)
    (fun d => match d with | .tuple [_, .int f] => rideD (red p s f) | d => d) (ds := fs.map rideD) fun d hd => by
      obtain ⟨f, _, rfl⟩ := List.mem_map.mp hd
      exact ⟨_, rfl, by simp [e1, rideD]⟩
  simp [f_reduced_rides, d_reduced_rides, show fs.length ≤ 16777216 by omega]
  rw [hl]
  simp [rideD, Function.comp_def]
theorem ev_paid {c p s : Int} (k : CardOk c p s) (fs : List Int) (hz : fs.length ≤ 1000) : f_paid_with [.py (.tuple []), .py (card c p s), .py (.tuple (fs.map rideD))] G = .ok (.py (.int (c + (fs.map (red p s)).sum))) G := by
  have e1 := ev_rides (G := G) k fs hz
  have e2 := ev_best (G := G) (fs.map (red p s))
  simp only [List.map_map] at e1 e2
  unfold card at *
  simp [f_paid_with, d_paid_with, e1, e2]
end
/-! ### the drawn cards -/
section
variable {G rest : Sto}
theorem draw_of {is : List Int} (hb : BG.Bag G rest) (h1 : 0 < is.length) (h2 : is.length < 1000) : ∃ i G', f__law_some [.obj 0, .py (.list (is.map PyData.int))] G = .ok (.py (.int i)) G' ∧ BG.Bag G' rest ∧ i ∈ is := by
  obtain ⟨d, G', e, b, m⟩ := BG.some_ok hb (ds := is.map PyData.int) (by simpa using h1) (by rw [List.length_map]; omega)
  obtain ⟨i, hi, rfl⟩ := List.mem_map.mp m
  exact ⟨i, G', e, b, hi⟩
theorem ev_pair (hb : BG.Bag G rest) : ∃ c1 p1 s1 c2 p2 s2 G', f__law_pair [.obj 0] G = .ok (.py (.tuple [card c1 p1 s1, card c2 p2 s2])) G' ∧ BG.Bag G' rest ∧ CardOk c1 p1 s1 ∧ CardOk c2 p2 s2 := by
  obtain ⟨c, G1, e1, b1, m1⟩ := draw_of (is := [0, 100, 500]) hb (by decide) (by decide)
  obtain ⟨p, G2, e2, b2, p0, p1⟩ := BG.take_ok b1 (many := 99) (by decide) (by decide)
  obtain ⟨s, G3, e3, b3, s0, s1⟩ := BG.take_ok b2 (many := 20) (by decide) (by decide)
  obtain ⟨y, G4, e4, b4, y0, y1⟩ := BG.take_ok b3 (many := 5) (by decide) (by decide)
  have hc : 0 ≤ c ∧ c ≤ 500 := by simp at m1; omega
  have k1 : CardOk c (1 + p) (1 + s) := ⟨hc.1, by omega, by omega, by omega, by omega, by omega⟩
  simp at e1
  have last : ∀ (c2 q2 t2 : Int) (G5 : Sto), BG.Bag G5 rest → CardOk c2 q2 t2 → ∃ r G6, f__law_take [.obj 0, .py (.int 2)] G5 = .ok (.py (.int r)) G6 ∧ BG.Bag G6 rest := fun c2 q2 t2 G5 b5 _ => by
    obtain ⟨r, G6, e6, b6, _, _⟩ := BG.take_ok b5 (many := 2) (by decide) (by decide)
    exact ⟨r, G6, e6, b6⟩
  have key : ∀ (c2 q2 t2 r : Int) (G6 : Sto), CardOk c2 q2 t2 → BG.Bag G6 rest → (if r = 0 then f__law_pair [.obj 0] G = .ok (.py (.tuple [card c (1 + p) (1 + s), card c2 q2 t2])) G6 else f__law_pair [.obj 0] G = .ok (.py (.tuple [card c2 q2 t2, card c (1 + p) (1 + s)])) G6) →
      ∃ c1 p1 s1 c2 p2 s2 G', f__law_pair [.obj 0] G = .ok (.py (.tuple [card c1 p1 s1, card c2 p2 s2])) G' ∧ BG.Bag G' rest ∧ CardOk c1 p1 s1 ∧ CardOk c2 p2 s2 := fun c2 q2 t2 r G6 k2 b6 h => by
    split at h
    · exact ⟨_, _, _, _, _, _, G6, h, b6, k1, k2⟩
    · exact ⟨_, _, _, _, _, _, G6, h, b6, k2, k1⟩
  rw [← e_take] at e2 e3 e4
  have hy : y = 0 ∨ y = 1 ∨ y = 2 ∨ y = 3 ∨ y = 4 := by omega
  rcases hy with rfl | rfl | rfl | rfl | rfl
  · obtain ⟨c2, G5, e5, b5, m5⟩ := draw_of (is := [0, 100, 500, 501]) b4 (by decide) (by decide)
    have k2 : CardOk c2 (1 + p) (1 + s) := by simp at m5; exact ⟨by omega, by omega, by omega, by omega, by omega, by omega⟩
    obtain ⟨r, G6, e6, b6⟩ := last _ _ _ _ b5 k2
    simp at e5
    refine key _ _ _ r G6 k2 b6 ?_
    by_cases hr : r = 0
    · simp [f__law_pair, d__law_pair, card, e1, e2, e3, e4, e5, e6, hr]
    · simp [f__law_pair, d__law_pair, card, e1, e2, e3, e4, e5, e6, hr]
  · obtain ⟨d, G5, e5, b5, m5⟩ := draw_of (is := [1, -1, 10]) b4 (by decide) (by decide)
    have k2 : CardOk c (if (if 1 + p + d < 99 then 1 + p + d else 99) > 1 then (if 1 + p + d < 99 then 1 + p + d else 99) else 1) (1 + s) := by
      refine ⟨by omega, by omega, ?_, ?_, by omega, by omega⟩
      · split <;> split <;> omega
      · split <;> split <;> omega
    obtain ⟨r, G6, e6, b6⟩ := last _ _ _ _ b5 k2
    simp at e5
    refine key _ _ _ r G6 k2 b6 ?_
    by_cases hr : r = 0
    · simp [f__law_pair, d__law_pair, card, e1, e2, e3, e4, e5, e6, hr]
    · simp [f__law_pair, d__law_pair, card, e1, e2, e3, e4, e5, e6, hr]
  · obtain ⟨t, G5, e5, b5, t0, t1⟩ := BG.take_ok b4 (many := 20) (by decide) (by decide)
    rw [← e_take] at e5
    have k2 : CardOk c (1 + p) (1 + t) := ⟨by omega, by omega, by omega, by omega, by omega, by omega⟩
    obtain ⟨r, G6, e6, b6⟩ := last _ _ _ _ b5 k2
    refine key _ _ _ r G6 k2 b6 ?_
    by_cases hr : r = 0
    · simp [f__law_pair, d__law_pair, card, e1, e2, e3, e4, e5, e6, hr]
    · simp [f__law_pair, d__law_pair, card, e1, e2, e3, e4, e5, e6, hr]
  · obtain ⟨x, G5, e5, b5, x0, x1⟩ := BG.take_ok b4 (many := 50) (by decide) (by decide)
    obtain ⟨q, G7, e7, b7, q0, q1⟩ := BG.take_ok b5 (many := 99) (by decide) (by decide)
    obtain ⟨t, G8, e8, b8, t0, t1⟩ := BG.take_ok b7 (many := 20) (by decide) (by decide)
    rw [← e_take] at e5 e7 e8
    have k2 : CardOk (c + x) (1 + q) (1 + t) := ⟨by omega, by omega, by omega, by omega, by omega, by omega⟩
    obtain ⟨r, G6, e6, b6⟩ := last _ _ _ _ b8 k2
    refine key _ _ _ r G6 k2 b6 ?_
    by_cases hr : r = 0
    · simp [f__law_pair, d__law_pair, card, e1, e2, e3, e4, e5, e6, e7, e8, hr]
    · simp [f__law_pair, d__law_pair, card, e1, e2, e3, e4, e5, e6, e7, e8, hr]
  · obtain ⟨r, G6, e6, b6⟩ := last _ _ _ _ b4 k1
    refine key _ _ _ r G6 k1 b6 ?_
    by_cases hr : r = 0
    · simp [f__law_pair, d__law_pair, card, e1, e2, e3, e4, e6, hr]
    · simp [f__law_pair, d__law_pair, card, e1, e2, e3, e4, e6, hr]
end
/-! ### plain laws of the rounding -/
theorem firstD_eq {g : Int → Bool} : ∀ {n : Nat} {lo f : Int}, lo ≤ f → f < lo + n → g f = true → (∀ x, lo ≤ x → x < f → g x = false) → firstD g lo n = some f
  | 0, _, _, h1, h2, _, _ => by omega
  | n + 1, lo, f, h1, h2, h3, h4 => by
    unfold firstD
    by_cases hf : f = lo
    · subst hf; rw [if_pos h3]
    · rw [if_neg (by rw [h4 lo (Int.le_refl _) (by omega)]; exact Bool.false_ne_true)]
      exact firstD_eq (by omega) (by omega) h3 fun x q1 q2 => h4 x (by omega) q2
theorem firstD_eq_none {g : Int → Bool} : ∀ {n : Nat} {lo : Int}, (∀ x, lo ≤ x → x < lo + n → g x = false) → firstD g lo n = none
  | 0, _, _ => rfl
  | n + 1, lo, h => by
    unfold firstD
    rw [if_neg (by rw [h lo (Int.le_refl _) (by omega)]; exact Bool.false_ne_true)]
    exact firstD_eq_none fun x q1 q2 => h x (by omega) (by omega)
section
variable {c1 p1 s1 c2 p2 s2 : Int}
theorem shift (k1 : CardOk c1 p1 s1) (k2 : CardOk c2 p2 s2) (f : Int) : red p1 s1 (f + 100 * com s1 s2) = red p1 s1 f + com s1 s2 * (100 - p1) ∧ red p2 s2 (f + 100 * com s1 s2) = red p2 s2 f + com s1 s2 * (100 - p2) := by
  obtain ⟨⟨t, e1⟩, ⟨u, e2⟩, _, _⟩ := com_facts k1.s0 k1.s1 k2.s0 k2.s1
  constructor
  · rw [e1]; exact red_add (by have := k1.s0; omega)
  · rw [e2]; exact red_add (by have := k2.s0; omega)
theorem top_le (k1 : CardOk c1 p1 s1) (k2 : CardOk c2 p2 s2) (h : dearer p1 s1 p2 s2 (100 * com s1 s2) = false) : com s1 s2 * (100 - p1) ≤ com s1 s2 * (100 - p2) := by
  have h0 := shift k1 k2 0
  rw [Int.zero_add, red_zero, red_zero] at h0
  have h : ¬ red p2 s2 (100 * com s1 s2) < red p1 s1 (100 * com s1 s2) := by simpa [dearer] using h
  omega
theorem never_all (k1 : CardOk c1 p1 s1) (k2 : CardOk c2 p2 s2) (h : ∀ x, 1 ≤ x → x ≤ 100 * com s1 s2 → dearer p1 s1 p2 s2 x = false) : ∀ (n : Nat) (x : Int), 0 ≤ x → x ≤ n → red p1 s1 x ≤ red p2 s2 x
  | 0, x, h1, h2 => by
    have : x = 0 := by omega
    subst this
    rw [red_zero, red_zero]
    exact Int.le_refl _
  | n + 1, x, h1, h2 => by
    have hc := com_facts k1.s0 k1.s1 k2.s0 k2.s1
    have ht := top_le k1 k2 (h _ (by omega) (Int.le_refl _))
    by_cases hx : x ≤ 100 * com s1 s2
    · by_cases h0 : x = 0
      · subst h0; rw [red_zero, red_zero]; exact Int.le_refl _
      · have := h x (by omega) hx
        have : ¬ red p2 s2 x < red p1 s1 x := by simpa [dearer] using this
        omega
    · have ih := never_all k1 k2 h n (x - 100 * com s1 s2) (by omega) (by omega)
      have hs := shift k1 k2 (x - 100 * com s1 s2)
      rw [show x - 100 * com s1 s2 + 100 * com s1 s2 = x by omega] at hs
      omega
/-- how far the law looks -/
def far (s1 s2 : Int) : Int := if 2000 > 100 * com s1 s2 then 2000 else 100 * com s1 s2
theorem far_le (k1 : CardOk c1 p1 s1) (k2 : CardOk c2 p2 s2) : 2000 ≤ far s1 s2 ∧ far s1 s2 ≤ 40000 ∧ 100 * com s1 s2 ≤ far s1 s2 ∧ far s1 s2 ≤ most s1 s2 := by
  have hc := com_facts k1.s0 k1.s1 k2.s0 k2.s1
  unfold far most
  split <;> split <;> omega
theorem none_all (k1 : CardOk c1 p1 s1) (k2 : CardOk c2 p2 s2) (h : firstD (dearer p1 s1 p2 s2) 1 (far s1 s2).toNat = none) : ∀ x, 0 ≤ x → red p1 s1 x ≤ red p2 s2 x := fun x hx => by
  have hf := far_le k1 k2
  exact never_all k1 k2 (fun y q1 q2 => firstD_none h y q1 (by omega)) x.toNat x hx (by omega)
theorem far_most (k1 : CardOk c1 p1 s1) (k2 : CardOk c2 p2 s2) : firstD (dearer p1 s1 p2 s2) 1 (most s1 s2).toNat = firstD (dearer p1 s1 p2 s2) 1 (far s1 s2).toNat := by
  have hf := far_le k1 k2
  cases e : firstD (dearer p1 s1 p2 s2) 1 (far s1 s2).toNat with
  | none =>
    have := none_all k1 k2 e
    refine firstD_eq_none fun x q1 q2 => ?_
    have := this x (by omega)
    simp [dearer]
    omega
  | some w =>
    obtain ⟨g1, g2, g3, g4⟩ := firstD_some e
    exact firstD_eq g1 (by omega) g3 g4
/-- the law's two ways to tell that a card is never worse -/
theorem rules_never (k1 : CardOk c1 p1 s1) (k2 : CardOk c2 p2 s2) : (p2 ≤ p1 ∧ (firstD (dearer p1 s1 p2 s2) 1 (far s1 s2).toNat = none ∨ ∃ w, firstD (dearer p1 s1 p2 s2) 1 (far s1 s2).toNat = some w ∧ 100 * com s1 s2 < w)) ↔ firstD (dearer p1 s1 p2 s2) 1 (far s1 s2).toNat = none := by
  have hc := com_facts k1.s0 k1.s1 k2.s0 k2.s1
  have hf := far_le k1 k2
  constructor
  · rintro ⟨hp, h | ⟨w, h, hw⟩⟩
    · exact h
    · exfalso
      obtain ⟨g1, g2, g3, g4⟩ := firstD_some h
      have hs := shift k1 k2 (w - 100 * com s1 s2)
      rw [show w - 100 * com s1 s2 + 100 * com s1 s2 = w by omega] at hs
      have h5 := g4 (w - 100 * com s1 s2) (by omega) (by omega)
      have h6 : com s1 s2 * (100 - p1) ≤ com s1 s2 * (100 - p2) := Int.mul_le_mul_of_nonneg_left (by omega) (by omega)
      have g3 : red p2 s2 w < red p1 s1 w := by simpa [dearer] using g3
      have h5 : ¬ red p2 s2 (w - 100 * com s1 s2) < red p1 s1 (w - 100 * com s1 s2) := by simpa [dearer] using h5
      omega
  · intro h
    have ht := top_le k1 k2 (firstD_none h _ (by omega) (by omega))
    have := Int.le_of_mul_le_mul_left ht (by omega)
    exact ⟨by omega, .inl h⟩
end
/-! ### the law's loops -/
section
variable {G rest : Sto} {c1 p1 s1 c2 p2 s2 : Int} {a0 a1 a2 a3 a4 a5 a6 a7 a8 a9 a10 a11 a12 a13 a14 a15 a16 a17 a18 : Slot}
theorem worse_loop (k1 : CardOk c1 p1 s1) (k2 : CardOk c2 p2 s2) : ∀ (n : Nat) (lo : Int) (sl : Slot), ∃ sl', forL (bName 7) d_law_2 (rangeP lo 1 n) [a0, a1, a2, .val (.py (card c1 p1 s1)), .val (.py (card c2 p2 s2)), a5, .val (.py .none), sl, a8, a9, a10, a11, a12, a13, a14, a15, a16, a17, a18] G = .nx [a0, a1, a2, .val (.py (card c1 p1 s1)), .val (.py (card c2 p2 s2)), a5, .val (.py (optD (firstD (dearer p1 s1 p2 s2) lo n))), sl', a8, a9, a10, a11, a12, a13, a14, a15, a16, a17, a18] G
  | 0, lo, sl => ⟨sl, rfl⟩
  | n + 1, lo, sl => by
    have e1 := fun f => ev_law_reduced (G := G) (c := c1) (f := f) (show 0 ≤ p1 by have := k1.p0; omega) (show p1 ≤ 100 by have := k1.p1; omega) (show 0 < s1 by have := k1.s0; omega) (show s1 ≤ 1000 by have := k1.s1; omega)
    have e2 := fun f => ev_law_reduced (G := G) (c := c2) (f := f) (show 0 ≤ p2 by have := k2.p0; omega) (show p2 ≤ 100 by have := k2.p1; omega) (show 0 < s2 by have := k2.s0; omega) (show s2 ≤ 1000 by have := k2.s1; omega)
    rw [rangeP_succ, forL_cons]
    unfold firstD
    by_cases hd : red p2 s2 lo < red p1 s1 lo
    · refine ⟨.val (.py (.int lo)), ?_⟩
      rw [if_pos (by simp [dearer, hd])]
      simp [d_law_2, e1, e2, hd, optD]
    · rw [if_neg (by simp [dearer, hd])]
      obtain ⟨sl', ih⟩ := worse_loop k1 k2 n (lo + 1) (.val (.py (.int lo)))
      refine ⟨sl', ?_⟩
      simpa [d_law_2, e1, e2, hd] using ih
theorem draws {t : Int} (h1 : 0 < t) (h2 : t ≤ 100000) : ∀ (ds : List PD) (G : Sto), BG.Bag G rest → ∃ (fs : List Int) (G' : Sto), lcL (bName 17) dYes (dTup (dCons (dTup (dCons (dC (.int 1)) dNil)) (dCons (dCall 2 f__law_take (dCons (dVar 1) (dCons (dVar 5) dNil))) dNil))) [a0, .val (.obj 0), a2, a3, a4, .val (.py (.int t)), a6, a7, a8, a9, a10, a11, a12, a13, a14, a15, a16, .none, a18] ds G = .ok (fs.map rideD) G' ∧ BG.Bag G' rest ∧ fs.length = ds.length ∧ ∀ f ∈ fs, 0 ≤ f ∧ f < t
  | [], G, hb => ⟨[], G, rfl, hb, rfl, fun _ h => nomatch h⟩
  | d :: ds, G, hb => by
    obtain ⟨r, G1, e1, b1, r0, r1⟩ := BG.take_ok hb (many := t) h1 (by omega)
    obtain ⟨fs, G2, e2, b2, l2, m2⟩ := draws h1 h2 ds G1 b1
    rw [← e_take] at e1
    refine ⟨r :: fs, G2, ?_, b2, by simp [l2], fun f hf => ?_⟩
    · unfold lcL
      simp [e1, e2, pyW, rideD]
    · rcases List.mem_cons.mp hf with rfl | hf
      · exact ⟨r0, r1⟩
      · exact m2 f hf
theorem inner_sum {c p s : Int} (k : CardOk c p s) (fs : List Int) : lcL (bTup 2 (bCons (bName 18) (bCons (bName 7) bNil))) dYes (dCall 2 f__law_reduced (dCons (dVar 16) (dCons (dVar 7) dNil))) [a0, a1, a2, a3, a4, a5, a6, .none, a8, a9, a10, a11, a12, a13, a14, a15, .val (.py (card c p s)), a17, .none] (fs.map rideD) G = .ok ((fs.map (red p s)).map PyData.int) G := by
  have e1 := fun f => ev_law_reduced (G := G) (c := c) (f := f) (show 0 ≤ p by have := k.p0; omega) (show p ≤ 100 by have := k.p1; omega) (show 0 < s by have := k.s0; omega) (show s ≤ 1000 by have := k.s1; omega)
  rw [lcL_map (fun d => match d with | .tuple [_, .int f] => .int (red p s f) | d => d)]
  · simp [rideD, Function.comp_def]
  · intro d hd
    obtain ⟨f, _, rfl⟩ := List.mem_map.mp hd
    exact ⟨_, by simp [rideD]; rfl, by simp [e1, rideD]⟩
theorem sum_le {f g : Int → Int} : ∀ {xs : List Int}, (∀ x ∈ xs, f x ≤ g x) → (xs.map f).sum ≤ (xs.map g).sum
  | [], _ => Int.le_refl _
  | x :: xs, h => by
    have h1 := h x List.mem_cons_self
    have h2 := sum_le (xs := xs) fun y hy => h y (List.mem_cons_of_mem _ hy)
    simp only [List.map_cons, List.sum_cons]
    omega
theorem lap_body {nv : Bool} (k1 : CardOk c1 p1 s1) (k2 : CardOk c2 p2 s2) (hn : nv = true → c1 ≤ c2 ∧ ∀ x, 0 ≤ x → red p1 s1 x ≤ red p2 s2 x) (hb : BG.Bag G rest) :
    ∃ x5 x13 x15 G', d_law_1 [a0, .val (.obj 0), a2, .val (.py (card c1 p1 s1)), .val (.py (card c2 p2 s2)), a5, a6, a7, a8, .val (.py (.bool nv)), a10, a11, a12, a13, a14, a15, a16, a17, a18] G = .nx [a0, .val (.obj 0), a2, .val (.py (card c1 p1 s1)), .val (.py (card c2 p2 s2)), x5, a6, a7, a8, .val (.py (.bool nv)), a10, a11, a12, x13, a14, x15, a16, a17, a18] G' ∧ BG.Bag G' rest := by
  obtain ⟨t, G1, e1, b1, m1⟩ := draw_of (is := [9, 300, 100000]) hb (by decide) (by decide)
  have ht : 0 < t ∧ t ≤ 100000 := by simp at m1; omega
  obtain ⟨r, G2, e2, b2, r0, r1⟩ := BG.take_ok b1 (many := 30) (by decide) (by decide)
  rw [← e_take] at e2
  simp at e1
  obtain ⟨fs, G3, e3, b3, l3, m3⟩ := draws (a0 := a0) (a2 := a2) (a3 := .val (.py (card c1 p1 s1))) (a4 := .val (.py (card c2 p2 s2))) (a6 := a6) (a7 := a7) (a8 := a8) (a9 := .val (.py (.bool nv))) (a10 := a10) (a11 := a11) (a12 := a12) (a13 := a13) (a14 := a14) (a15 := a15) (a16 := a16) (a18 := a18) ht.1 ht.2 (rangeP 0 1 r.toNat) G2 b2
  rw [rangeP_length] at l3
  have hz : fs.length ≤ 1000 := by omega
  have he : endOk r = true := by
    unfold endOk
    simp only [Bool.and_eq_true, decide_eq_true_eq]
    omega
  have q1 := ev_paid (G := G3) k1 fs hz
  have q2 := ev_paid (G := G3) k2 fs hz
  have hs : f__law_same [.py (.list [.int (c1 + (fs.map (red p1 s1)).sum), .int (c2 + (fs.map (red p2 s2)).sum)]), .py (.list [.int (c1 + (fs.map (red p1 s1)).sum), .int (c2 + (fs.map (red p2 s2)).sum)])] G3 = .ok (.py (.bool true)) G3 := by
    rw [e_same]
    exact BG.same_ok (by simp [BG.noDict, BG.noDict.noDicts]) (by simp [BG.sz, BG.sz.szs])
  have i1 := inner_sum (G := G3) k1 fs (a0 := a0) (a1 := .val (.obj 0)) (a2 := a2) (a3 := .val (.py (card c1 p1 s1))) (a4 := .val (.py (card c2 p2 s2))) (a5 := .val (.py (.int t))) (a6 := a6) (a8 := a8) (a9 := .val (.py (.bool nv))) (a10 := a10) (a11 := a11) (a12 := a12) (a13 := a13) (a14 := a14) (a15 := .val (.py (.tuple (fs.map rideD)))) (a17 := a17)
  have i2 := inner_sum (G := G3) k2 fs (a0 := a0) (a1 := .val (.obj 0)) (a2 := a2) (a3 := .val (.py (card c1 p1 s1))) (a4 := .val (.py (card c2 p2 s2))) (a5 := .val (.py (.int t))) (a6 := a6) (a8 := a8) (a9 := .val (.py (.bool nv))) (a10 := a10) (a11 := a11) (a12 := a12) (a13 := a13) (a14 := a14) (a15 := .val (.py (.tuple (fs.map rideD)))) (a17 := a17)
  have f1 := intsOf_map (fs.map (red p1 s1))
  have f2 := intsOf_map (fs.map (red p2 s2))
  simp only [List.map_map] at f1 f2 i1 i2
  have hlt : nv = true → ¬ c2 + (fs.map (red p2 s2)).sum < c1 + (fs.map (red p1 s1)).sum := fun h => by
    obtain ⟨h1, h2⟩ := hn h
    have := sum_le (xs := fs) fun x hx => h2 x (m3 x hx).1
    omega
  refine ⟨.val (.py (.int t)), .val (.py (.list [.int (c1 + (fs.map (red p1 s1)).sum), .int (c2 + (fs.map (red p2 s2)).sum)])), .val (.py (.tuple (fs.map rideD))), G3, ?_, b3⟩
  cases nv with
  | false =>
    unfold card at *
    simp [d_law_1, e1, e2, e3, he, q1, q2, hs, i1, i2, f1, f2, lcL, pyW, rangeP_length, show r.toNat ≤ 16777216 by omega, show fs.length ≤ 16777216 by omega]
  | true =>
    have hlt := hlt rfl
    unfold card at *
    simp [d_law_1, e1, e2, e3, he, q1, q2, hs, i1, i2, f1, f2, lcL, pyW, rangeP_length, hlt, show r.toNat ≤ 16777216 by omega, show fs.length ≤ 16777216 by omega]
theorem laps {nv : Bool} (k1 : CardOk c1 p1 s1) (k2 : CardOk c2 p2 s2) (hn : nv = true → c1 ≤ c2 ∧ ∀ x, 0 ≤ x → red p1 s1 x ≤ red p2 s2 x) : ∀ (ds : List PD) (G : Sto), BG.Bag G rest →
    ∃ x5 x13 x14 x15 G', forL (bName 14) d_law_1 ds [a0, .val (.obj 0), a2, .val (.py (card c1 p1 s1)), .val (.py (card c2 p2 s2)), a5, a6, a7, a8, .val (.py (.bool nv)), a10, a11, a12, a13, a14, a15, a16, a17, a18] G = .nx [a0, .val (.obj 0), a2, .val (.py (card c1 p1 s1)), .val (.py (card c2 p2 s2)), x5, a6, a7, a8, .val (.py (.bool nv)), a10, a11, a12, x13, x14, x15, a16, a17, a18] G' ∧ BG.Bag G' rest := by
  intro ds
  induction ds generalizing a5 a13 a14 a15 with
  | nil => exact fun G hb => ⟨a5, a13, a14, a15, G, rfl, hb⟩
  | cons d ds ih =>
    intro G hb
    obtain ⟨x5, x13, x15, G1, e1, b1⟩ := lap_body (a0 := a0) (a2 := a2) (a5 := a5) (a6 := a6) (a7 := a7) (a8 := a8) (a10 := a10) (a11 := a11) (a12 := a12) (a13 := a13) (a14 := .val (.py d)) (a15 := a15) (a16 := a16) (a17 := a17) (a18 := a18) k1 k2 hn hb
    obtain ⟨y5, y13, y14, y15, G2, e2, b2⟩ := ih (a5 := x5) (a13 := x13) (a14 := .val (.py d)) (a15 := x15) G1 b1
    refine ⟨y5, y13, y14, y15, G2, ?_, b2⟩
    rw [forL_cons]
    simp [e1, e2]
theorem nev_self (k1 : CardOk c1 p1 s1) : nev c1 p1 s1 c1 p1 s1 = true := by
  unfold nev fw
  rw [if_neg (by omega), firstD_eq_none fun x _ _ => by simp [dearer]]
  rfl
theorem ne_pair {i j : Int} : neW (.py (.tuple [.int i, .int j])) (.py (.tuple [.int i, .int j])) G = some (.py (.bool false)) := by
  unfold neW
  rw [datW_py, if_pos (by simp [PyData.depth, PyData.depthAll])]
  simp [PyData.eqv, PyData.eqvAll]
/-- one turn -/
theorem turn_body (hb : BG.Bag G rest) : ∃ ρ' G', d_law_3 [a0, .val (.obj 0), a2, a3, a4, a5, a6, a7, a8, a9, a10, a11, a12, a13, a14, a15, a16, a17, a18] G = .nx ρ' G' ∧ BG.Bag G' rest ∧ ∃ b2 b3 b4 b5 b6 b7 b8 b9 b10 b11 b12 b13 b14 b15 b16 b17 b18, ρ' = [a0, .val (.obj 0), b2, b3, b4, b5, b6, b7, b8, b9, b10, b11, b12, b13, b14, b15, b16, b17, b18] := by
  obtain ⟨c1, p1, s1, c2, p2, s2, G1, eP, b1, k1, k2⟩ := ev_pair hb
  have hc := com_facts k1.s0 k1.s1 k2.s0 k2.s1
  have hf := far_le k1 k2
  have eC := ev_law_common (a := s1) (b := s2) (G := G1) (by have := k2.s0; omega)
  have hm : mulI 100 (com s1 s2) = some (.int (100 * com s1 s2)) := mulI_ok (mulOk_l (by omega) (by omega))
  have hE : endOk ((if 2000 > 100 * com s1 s2 then 2000 else 100 * com s1 s2) + 1) = true := by
    unfold endOk
    simp only [Bool.and_eq_true, decide_eq_true_eq]
    split <;> omega
  have h1 : endOk 1 = true := by decide
  have h5 : endOk 5 = true := by decide
  have eF := ev_first_worse (G := G1) k1 k2
  have eN := ev_never (G := G1) k1 k2
  have eS := ev_never (G := G1) k1 k1
  rw [nev_self k1] at eS
  obtain ⟨sl, eW⟩ := worse_loop (G := G1) (a0 := a0) (a1 := .val (.obj 0)) (a2 := a2) (a5 := .val (.py (.int (100 * com s1 s2)))) (a8 := a8) (a9 := a9) (a10 := a10) (a11 := a11) (a12 := a12) (a13 := a13) (a14 := a14) (a15 := a15) (a16 := a16) (a17 := a17) (a18 := a18) k1 k2 (far s1 s2).toNat 1 a7
  unfold far at eW
  have hr := rules_never k1 k2
  have hfm := far_most k1 k2
  have same : ∀ d : PD, BG.noDict d = true → BG.sz d ≤ 16000000 → f__law_same [.py d, .py d] G1 = .ok (.py (.bool true)) G1 := fun d q1 q2 => by rw [e_same]; exact BG.same_ok q1 q2
  have sT := same (.bool true) rfl (by decide)
  have sF := same (.bool false) rfl (by decide)
  by_cases hcc : c2 < c1
  · have hfw : fw c1 p1 s1 c2 p2 s2 = .tuple [.int 0, .int 0] := if_pos hcc
    have hnv : nev c1 p1 s1 c2 p2 s2 = false := by unfold nev; rw [hfw]; rfl
    rw [hfw] at eF
    rw [hnv] at eN
    obtain ⟨y5, y13, y14, y15, G9, eL, b9⟩ := laps (a0 := a0) (a2 := a2) (a5 := .val (.py (.int (100 * com s1 s2)))) (a6 := .val (.py (optD (firstD (dearer p1 s1 p2 s2) 1 (if 2000 > 100 * com s1 s2 then 2000 else 100 * com s1 s2).toNat)))) (a7 := sl) (a8 := .val (.py (.bool false))) (a10 := .val (.py (.tuple [.int 0, .int 0]))) (a11 := a11) (a12 := a12) (a13 := a13) (a14 := a14) (a15 := a15) (a16 := a16) (a17 := a17) (a18 := a18) (nv := false) k1 k2 (fun z => nomatch z) (rangeP 0 1 5) G1 b1
    refine ⟨[a0, .val (.obj 0), a2, .val (.py (card c1 p1 s1)), .val (.py (card c2 p2 s2)), y5, .val (.py (optD (firstD (dearer p1 s1 p2 s2) 1 (if 2000 > 100 * com s1 s2 then 2000 else 100 * com s1 s2).toNat))), sl, .val (.py (.bool false)), .val (.py (.bool false)), .val (.py (.tuple [.int 0, .int 0])), a11, a12, y13, y14, y15, a16, a17, a18], G9, ?_, b9, _, _, _, _, _, _, _, _, _, _, _, _, _, _, _, _, _, rfl⟩
    unfold card at *
    simp [d_law_3, eP, eC, hm, hE, h1, h5, eW, eF, eN, eS, eL, sT, sF, ne_pair, hcc, show ¬ c1 ≤ c2 by omega]
  · cases hw : firstD (dearer p1 s1 p2 s2) 1 (far s1 s2).toNat with
    | none =>
      have hfw : fw c1 p1 s1 c2 p2 s2 = .none := by unfold fw; rw [if_neg hcc, hfm, hw]
      have hnv : nev c1 p1 s1 c2 p2 s2 = true := by unfold nev; rw [hfw]; rfl
      rw [hfw] at eF
      rw [hnv] at eN
      have hw2 := hw
      unfold far at hw2
      rw [hw2] at eW
      obtain ⟨y5, y13, y14, y15, G9, eL, b9⟩ := laps (a0 := a0) (a2 := a2) (a5 := .val (.py (.int (100 * com s1 s2)))) (a6 := .val (.py .none)) (a7 := sl) (a8 := .val (.py (.bool true))) (a10 := .val (.py .none)) (a11 := a11) (a12 := a12) (a13 := a13) (a14 := a14) (a15 := a15) (a16 := a16) (a17 := a17) (a18 := a18) (nv := true) k1 k2 (fun _ => ⟨by omega, none_all k1 k2 hw⟩) (rangeP 0 1 5) G1 b1
      refine ⟨[a0, .val (.obj 0), a2, .val (.py (card c1 p1 s1)), .val (.py (card c2 p2 s2)), y5, .val (.py .none), sl, .val (.py (.bool true)), .val (.py (.bool true)), .val (.py .none), a11, a12, y13, y14, y15, a16, a17, a18], G9, ?_, b9, _, _, _, _, _, _, _, _, _, _, _, _, _, _, _, _, _, rfl⟩
      unfold card at *
      simp [d_law_3, eP, eC, hm, hE, h1, h5, eW, eF, eN, eS, eL, optD, sT, sF, hcc, show c1 ≤ c2 by omega, show p2 ≤ p1 from (hr.mpr hw).1]
    | some w =>
      have hfw : fw c1 p1 s1 c2 p2 s2 = .tuple [.int w, .int ((c2 - c1) / (red p1 s1 w - red p2 s2 w) + 1)] := by unfold fw; rw [if_neg hcc, hfm, hw]
      have hnv : nev c1 p1 s1 c2 p2 s2 = false := by unfold nev; rw [hfw]; rfl
      rw [hfw] at eF
      rw [hnv] at eN
      obtain ⟨g1, g2, g3, g4⟩ := firstD_some hw
      have hmo := more_ok k1 k2 (f := w) (by omega) (by omega) g3
      have hw2 := hw
      unfold far at hw2
      rw [hw2] at eW
      have eR1 := ev_law_reduced (G := G1) (c := c1) (f := w) (show 0 ≤ p1 by have := k1.p0; omega) (show p1 ≤ 100 by have := k1.p1; omega) (show 0 < s1 by have := k1.s0; omega) (show s1 ≤ 1000 by have := k1.s1; omega)
      have eR2 := ev_law_reduced (G := G1) (c := c2) (f := w) (show 0 ≤ p2 by have := k2.p0; omega) (show p2 ≤ 100 by have := k2.p1; omega) (show 0 < s2 by have := k2.s0; omega) (show s2 ≤ 1000 by have := k2.s1; omega)
      have eQ1 := ev_reduced (G := G1) (c := c1) (f := w) (show 0 ≤ p1 by have := k1.p0; omega) (show p1 ≤ 100 by have := k1.p1; omega) (show 0 < s1 by have := k1.s0; omega) (show s1 ≤ 1000 by have := k1.s1; omega)
      have eQ2 := ev_reduced (G := G1) (c := c2) (f := w) (show 0 ≤ p2 by have := k2.p0; omega) (show p2 ≤ 100 by have := k2.p1; omega) (show 0 < s2 by have := k2.s0; omega) (show s2 ≤ 1000 by have := k2.s1; omega)
      have sP := same (.tuple [.int w, .int ((c2 - c1) / (red p1 s1 w - red p2 s2 w) + 1)]) (by simp [BG.noDict, BG.noDict.noDicts]) (by simp [BG.sz, BG.sz.szs])
      have d1 := Int.mul_ediv_add_emod (c2 - c1) (red p1 s1 w - red p2 s2 w)
      have d2 := Int.emod_nonneg (c2 - c1) (b := red p1 s1 w - red p2 s2 w) (by omega)
      have d3 := Int.emod_lt_of_pos (c2 - c1) hmo.1
      have d4 : 0 ≤ (c2 - c1) / (red p1 s1 w - red p2 s2 w) := Int.ediv_nonneg (by omega) (by omega)
      have d5 : (c2 - c1) / (red p1 s1 w - red p2 s2 w) ≤ c2 - c1 := Int.ediv_le_self _ (by omega)
      have hmu : ∀ x, mulI ((c2 - c1) / (red p1 s1 w - red p2 s2 w) + 1) x = some (.int (((c2 - c1) / (red p1 s1 w - red p2 s2 w) + 1) * x)) := fun x => mulI_ok (mulOk_l (by have := k2.c1; have := k1.c0; omega) (by have := k2.c1; have := k1.c0; omega))
      have d6 : (red p1 s1 w - red p2 s2 w) * ((c2 - c1) / (red p1 s1 w - red p2 s2 w)) = ((c2 - c1) / (red p1 s1 w - red p2 s2 w)) * red p1 s1 w - ((c2 - c1) / (red p1 s1 w - red p2 s2 w)) * red p2 s2 w := by grind
      have n1 : ¬ c1 + ((c2 - c1) / (red p1 s1 w - red p2 s2 w) + 1) * red p1 s1 w ≤ c2 + ((c2 - c1) / (red p1 s1 w - red p2 s2 w) + 1) * red p2 s2 w := by
        rw [Int.add_mul, Int.add_mul, Int.one_mul, Int.one_mul]
        omega
      have n2 : ¬ c2 + ((c2 - c1) / (red p1 s1 w - red p2 s2 w) + 1) * red p2 s2 w < c1 + ((c2 - c1) / (red p1 s1 w - red p2 s2 w) + 1) * red p1 s1 w - (red p1 s1 w - red p2 s2 w) := by
        rw [Int.add_mul, Int.add_mul, Int.one_mul, Int.one_mul]
        omega
      by_cases hpp : p2 ≤ p1
      · have hwt : ¬ 100 * com s1 s2 < w := fun z => by
          have := hr.mp ⟨hpp, .inr ⟨w, hw, z⟩⟩
          rw [hw] at this
          cases this
        obtain ⟨y5, y13, y14, y15, G9, eL, b9⟩ := laps (a0 := a0) (a2 := a2) (a5 := .val (.py (.int (100 * com s1 s2)))) (a6 := .val (.py (.int w))) (a7 := sl) (a8 := .val (.py (.bool false))) (a10 := .val (.py (.tuple [.int w, .int ((c2 - c1) / (red p1 s1 w - red p2 s2 w) + 1)]))) (a11 := .val (.py (.int (red p1 s1 w - red p2 s2 w)))) (a12 := .val (.py (.int ((c2 - c1) / (red p1 s1 w - red p2 s2 w) + 1)))) (a13 := .val (.py (.list [.int (c1 + ((c2 - c1) / (red p1 s1 w - red p2 s2 w) + 1) * red p1 s1 w), .int (c2 + ((c2 - c1) / (red p1 s1 w - red p2 s2 w) + 1) * red p2 s2 w)]))) (a14 := a14) (a15 := a15) (a16 := a16) (a17 := a17) (a18 := a18) (nv := false) k1 k2 (fun z => nomatch z) (rangeP 0 1 5) G1 b1
        refine ⟨[a0, .val (.obj 0), a2, .val (.py (card c1 p1 s1)), .val (.py (card c2 p2 s2)), y5, .val (.py (.int w)), sl, .val (.py (.bool false)), .val (.py (.bool false)), .val (.py (.tuple [.int w, .int ((c2 - c1) / (red p1 s1 w - red p2 s2 w) + 1)])), .val (.py (.int (red p1 s1 w - red p2 s2 w))), .val (.py (.int ((c2 - c1) / (red p1 s1 w - red p2 s2 w) + 1))), y13, y14, y15, a16, a17, a18], G9, ?_, b9, _, _, _, _, _, _, _, _, _, _, _, _, _, _, _, _, _, rfl⟩
        unfold card at *
        simp [d_law_3, eP, eC, hm, hE, h1, h5, eW, eF, eN, eS, eL, optD, sT, sF, hcc, show c1 ≤ c2 by omega, eR1, eR2, eQ1, eQ2, hmo.2, hmu, lcL, pyW, sP, n1, n2, hpp, hwt]
      · obtain ⟨y5, y13, y14, y15, G9, eL, b9⟩ := laps (a0 := a0) (a2 := a2) (a5 := .val (.py (.int (100 * com s1 s2)))) (a6 := .val (.py (.int w))) (a7 := sl) (a8 := .val (.py (.bool false))) (a10 := .val (.py (.tuple [.int w, .int ((c2 - c1) / (red p1 s1 w - red p2 s2 w) + 1)]))) (a11 := .val (.py (.int (red p1 s1 w - red p2 s2 w)))) (a12 := .val (.py (.int ((c2 - c1) / (red p1 s1 w - red p2 s2 w) + 1)))) (a13 := .val (.py (.list [.int (c1 + ((c2 - c1) / (red p1 s1 w - red p2 s2 w) + 1) * red p1 s1 w), .int (c2 + ((c2 - c1) / (red p1 s1 w - red p2 s2 w) + 1) * red p2 s2 w)]))) (a14 := a14) (a15 := a15) (a16 := a16) (a17 := a17) (a18 := a18) (nv := false) k1 k2 (fun z => nomatch z) (rangeP 0 1 5) G1 b1
        refine ⟨[a0, .val (.obj 0), a2, .val (.py (card c1 p1 s1)), .val (.py (card c2 p2 s2)), y5, .val (.py (.int w)), sl, .val (.py (.bool false)), .val (.py (.bool false)), .val (.py (.tuple [.int w, .int ((c2 - c1) / (red p1 s1 w - red p2 s2 w) + 1)])), .val (.py (.int (red p1 s1 w - red p2 s2 w))), .val (.py (.int ((c2 - c1) / (red p1 s1 w - red p2 s2 w) + 1))), y13, y14, y15, a16, a17, a18], G9, ?_, b9, _, _, _, _, _, _, _, _, _, _, _, _, _, _, _, _, _, rfl⟩
        unfold card at *
        simp [d_law_3, eP, eC, hm, hE, h1, h5, eW, eF, eN, eS, eL, optD, sT, sF, hcc, show c1 ≤ c2 by omega, eR1, eR2, eQ1, eQ2, hmo.2, hmu, lcL, pyW, sP, n1, n2, hpp]
theorem turns : ∀ (ds : List PD) (G : Sto) (ρ : Fm), BG.Bag G rest → (∃ b2 b3 b4 b5 b6 b7 b8 b9 b10 b11 b12 b13 b14 b15 b16 b17 b18, ρ = [a0, .val (.obj 0), b2, b3, b4, b5, b6, b7, b8, b9, b10, b11, b12, b13, b14, b15, b16, b17, b18]) → ∃ ρ' G', forL (bName 2) d_law_3 ds ρ G = .nx ρ' G' ∧ BG.Bag G' rest ∧ ∃ b2 b3 b4 b5 b6 b7 b8 b9 b10 b11 b12 b13 b14 b15 b16 b17 b18, ρ' = [a0, .val (.obj 0), b2, b3, b4, b5, b6, b7, b8, b9, b10, b11, b12, b13, b14, b15, b16, b17, b18] := by
  intro ds
  induction ds with
  | nil => exact fun G ρ hb hρ => ⟨ρ, G, rfl, hb, hρ⟩
  | cons d ds ih =>
    intro G ρ hb hρ
    obtain ⟨w2, w3, w4, w5, w6, w7, w8, w9, w10, w11, w12, w13, w14, w15, w16, w17, w18, rfl⟩ := hρ
    obtain ⟨ρ1, G1, e1, b1, h1⟩ := turn_body (a0 := a0) (a2 := .val (.py d)) (a3 := w3) (a4 := w4) (a5 := w5) (a6 := w6) (a7 := w7) (a8 := w8) (a9 := w9) (a10 := w10) (a11 := w11) (a12 := w12) (a13 := w13) (a14 := w14) (a15 := w15) (a16 := w16) (a17 := w17) (a18 := w18) hb
    obtain ⟨ρ2, G2, e2, b2, h2⟩ := ih G1 ρ1 b1 h1
    refine ⟨ρ2, G2, ?_, b2, h2⟩
    rw [forL_cons]
    simp [e1, e2]
end
theorem law_true (ns : List Int) (h : ns.length ≤ 63) : ∃ G', f_law [.scr (ns.map PyData.int)] [] = .ok (.py (.bool true)) G' := by
  obtain ⟨G1, e1, b1⟩ := BG.bag_ok ns h
  rw [← e_bag] at e1
  obtain ⟨ρ2, G2, e2, b2, w2, w3, w4, w5, w6, w7, w8, w9, w10, w11, w12, w13, w14, w15, w16, w17, w18, rfl⟩ := turns (a0 := .val (.scr (ns.map PyData.int))) (rangeP 0 1 5) G1 [.val (.scr (ns.map PyData.int)), .val (.obj 0), .none, .none, .none, .none, .none, .none, .none, .none, .none, .none, .none, .none, .none, .none, .none, .none, .none] b1 ⟨_, _, _, _, _, _, _, _, _, _, _, _, _, _, _, _, _, rfl⟩
  refine ⟨G2, ?_⟩
  simp [f_law, d_law, e1, show endOk 5 = true from by decide, e2]
end Lk65
open PySem PySem.W PyProof.Rows
set_option maxHeartbeats 0 in
theorem PySem.Challenge.cw_nosplitpays_k65_whole_cards_compared_for_holds : PySem.Challenge.rw_nosplitpays_k65_whole_cards_compared_for.Holds := by
  w_on; o_law; k_head; (case hw => w_witness2)
  k_fill
  refine L2.walk_of (l := PySem.Challenge.rw_nosplitpays_k65_whole_cards_compared_for) (n := 63) (k := 8) (x := "script") (CX := fun _ => L2.CX0) (sp := fun w => DL.spD ⟨PySem.Challenge.rw_nosplitpays_k65_whole_cards_compared_for.prog, w, _⟩ 1 Lk65.f_law) rfl (by decide) rfl ⟨rfl, by decide, by decide⟩ (fun w h Y => PySem.W.kIn_of Y) ?F (fun _ _ a ns hl ho hS => DL.law_sp (n := 63) Lk65.law_true hl ho hS) (fun _ _ _ _ _ h => h)
  case F =>
    intro w mg fa h KX G hmg
    refine' Lk65.all_mk KX G hmg ?a_has_all ?l_has_all ?c_has_all ?k_has_all ?a_holds ?l_holds ?c_holds ?k_holds ?a_prices_of_lots ?l_prices_of_lots ?c_prices_of_lots ?k_prices_of_lots ?a_hits_of ?l_hits_of ?c_hits_of ?k_hits_of ?a_with_ride ?l_with_ride ?c_with_ride ?k_with_ride ?a_costs_of_lots ?l_costs_of_lots ?c_costs_of_lots ?k_costs_of_lots ?a_best_price ?l_best_price ?c_best_price ?k_best_price ?a_least_above ?l_least_above ?c_least_above ?k_least_above ?a_reduced ?l_reduced ?c_reduced ?k_reduced ?a_reduced_rides ?l_reduced_rides ?c_reduced_rides ?k_reduced_rides ?a_paid_with ?l_paid_with ?c_paid_with ?k_paid_with ?a_common_steps ?l_common_steps ?c_common_steps ?k_common_steps ?a_first_dearer_fare ?l_first_dearer_fare ?c_first_dearer_fare ?k_first_dearer_fare ?a_first_worse ?l_first_worse ?c_first_worse ?k_first_worse ?a_is_never_worse ?l_is_never_worse ?c_is_never_worse ?k_is_never_worse ?a__law_bag ?l__law_bag ?c__law_bag ?k__law_bag ?a__law_take ?l__law_take ?c__law_take ?k__law_take ?a__law_some ?l__law_some ?c__law_some ?k__law_some ?a__law_same ?l__law_same ?c__law_same ?k__law_same ?a__law_reduced ?l__law_reduced ?c__law_reduced ?k__law_reduced ?a__law_pair ?l__law_pair ?c__law_pair ?k__law_pair ?a__law_common ?l__law_common ?c__law_common ?k__law_common ?a_law ?l_law ?c_law ?k_law ?z_all ?z_zip ?z_min ?z_tuple ?z_range ?z_max ?z_abs ?z_int ?z_len ?z_isinstance ?z_bool ?z_str ?z_list ?z_sum ?g_WHOLE ?g_FAR
    (case a_has_all => k_is); (case l_has_all => k_is); (case c_has_all => k_is); (case k_has_all => k_is); (case a_holds => k_is); (case l_holds => k_is); (case c_holds => k_is); (case k_holds => k_is); (case a_prices_of_lots => k_is); (case l_prices_of_lots => k_is); (case c_prices_of_lots => k_is); (case k_prices_of_lots => k_is); (case a_hits_of => k_is); (case l_hits_of => k_is); (case c_hits_of => k_is); (case k_hits_of => k_is); (case a_with_ride => k_is); (case l_with_ride => k_is); (case c_with_ride => k_is); (case k_with_ride => k_is); (case a_costs_of_lots => k_is); (case l_costs_of_lots => k_is); (case c_costs_of_lots => k_is); (case k_costs_of_lots => k_is); (case a_best_price => k_is); (case l_best_price => k_is); (case c_best_price => k_is); (case k_best_price => k_is); (case a_least_above => k_is); (case l_least_above => k_is); (case c_least_above => k_is); (case k_least_above => k_is); (case a_reduced => k_is); (case l_reduced => k_is); (case c_reduced => k_is); (case k_reduced => k_is); (case a_reduced_rides => k_is); (case l_reduced_rides => k_is); (case c_reduced_rides => k_is); (case k_reduced_rides => k_is); (case a_paid_with => k_is); (case l_paid_with => k_is); (case c_paid_with => k_is); (case k_paid_with => k_is); (case a_common_steps => k_is); (case l_common_steps => k_is); (case c_common_steps => k_is); (case k_common_steps => k_is); (case a_first_dearer_fare => k_is); (case l_first_dearer_fare => k_is); (case c_first_dearer_fare => k_is); (case k_first_dearer_fare => k_is); (case a_first_worse => k_is); (case l_first_worse => k_is); (case c_first_worse => k_is); (case k_first_worse => k_is); (case a_is_never_worse => k_is); (case l_is_never_worse => k_is); (case c_is_never_worse => k_is); (case k_is_never_worse => k_is); (case a__law_bag => k_is); (case l__law_bag => k_is); (case c__law_bag => k_is); (case k__law_bag => k_is); (case a__law_take => k_is); (case l__law_take => k_is); (case c__law_take => k_is); (case k__law_take => k_is); (case a__law_some => k_is); (case l__law_some => k_is); (case c__law_some => k_is); (case k__law_some => k_is); (case a__law_same => k_is); (case l__law_same => k_is); (case c__law_same => k_is); (case k__law_same => k_is); (case a__law_reduced => k_is); (case l__law_reduced => k_is); (case c__law_reduced => k_is); (case k__law_reduced => k_is); (case a__law_pair => k_is); (case l__law_pair => k_is); (case c__law_pair => k_is); (case k__law_pair => k_is); (case a__law_common => k_is); (case l__law_common => k_is); (case c__law_common => k_is); (case k__law_common => k_is); (case a_law => k_is); (case l_law => k_is); (case c_law => k_is); (case k_law => k_is); (case z_all => k_is); (case z_zip => k_is); (case z_min => k_is); (case z_tuple => k_is); (case z_range => k_is); (case z_max => k_is); (case z_abs => k_is); (case z_int => k_is); (case z_len => k_is); (case z_isinstance => k_is); (case z_bool => k_is); (case z_str => k_is); (case z_list => k_is); (case z_sum => k_is); (case g_WHOLE => k_is); (case g_FAR => k_is)
