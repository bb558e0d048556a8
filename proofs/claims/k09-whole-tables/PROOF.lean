import PyProof.Rows.All
import Wide.All
import OpenK.AllK
import Wide.FinOn
import PySem.Challenge.RW_sideloom_k09_whole_tables
import HandS.ForMost
import HandS.TryMany
import HandS.ExcOwn
import HandS.Exc
import HandS.ExcIs
import HandS.IsInst
import HandS.TupAny
import HandS.TupMul
import HandS.Zip
import HandS.Rev
import HandS.RaiseMore
import HandS.WordsExc
import HandS.TryOnly
import HandS.More
import HandS.Codes
set_option Elab.async false
set_option linter.all false
set_option maxRecDepth 100000
/-! Plain Lean: sides, places, coordinates; then the text by places. -/
namespace K9
/-! ### products of sides -/
def prod : List Nat → Nat
  | [] => 1
  | d :: r => d * prod r
def brd : List Nat → Nat
  | [] => 1
  | d :: r => max 1 d * brd r
theorem prod_append : ∀ a b : List Nat, prod (a ++ b) = prod a * prod b
  | [], b => by simp [prod]
  | x :: a, b => by
    show x * prod (a ++ b) = x * prod a * prod b
    rw [prod_append a b, Nat.mul_assoc]
theorem brd_append : ∀ a b : List Nat, brd (a ++ b) = brd a * brd b
  | [], b => by simp [brd]
  | x :: a, b => by
    show max 1 x * brd (a ++ b) = max 1 x * brd a * brd b
    rw [brd_append a b, Nat.mul_assoc]
theorem brd_pos : ∀ a : List Nat, 1 ≤ brd a
  | [] => Nat.le_refl 1
  | x :: a => Nat.mul_pos (by omega) (brd_pos a)
theorem prod_le_brd : ∀ a : List Nat, prod a ≤ brd a
  | [] => Nat.le_refl 1
  | x :: a => Nat.mul_le_mul (by omega) (prod_le_brd a)
theorem mem_le_brd : ∀ {a : List Nat} {d : Nat}, d ∈ a → d ≤ brd a
  | x :: a, d, h => by
    show d ≤ max 1 x * brd a
    rcases List.mem_cons.mp h with e | h
    · subst e
      have := brd_pos a
      calc d ≤ max 1 d := by omega
        _ = max 1 d * 1 := by rw [Nat.mul_one]
        _ ≤ max 1 d * brd a := Nat.mul_le_mul (Nat.le_refl _) this
    · have := mem_le_brd h
      calc d ≤ brd a := this
        _ = 1 * brd a := by rw [Nat.one_mul]
        _ ≤ max 1 x * brd a := Nat.mul_le_mul (by omega) (Nat.le_refl _)
theorem take_get {α : Type} {l : List α} {i : Nat} {x : α} (h : l[i]? = some x) : l.take (i + 1) = l.take i ++ [x] := by
  rw [List.take_add_one, h]
  rfl
theorem drop_get {α : Type} {l : List α} {i : Nat} {x : α} (h : l[i]? = some x) : l.drop i = x :: l.drop (i + 1) := by
  obtain ⟨hi, e⟩ := List.getElem?_eq_some_iff.mp h
  rw [List.drop_eq_getElem_cons hi, e]
theorem prod_take {ds : List Nat} {i d : Nat} (h : ds[i]? = some d) : prod (ds.take (i + 1)) = prod (ds.take i) * d := by
  rw [take_get h, prod_append]
  simp [prod]
theorem brd_take {ds : List Nat} {i d : Nat} (h : ds[i]? = some d) : brd (ds.take (i + 1)) = brd (ds.take i) * max 1 d := by
  rw [take_get h, brd_append]
  simp [brd]
theorem prod_pos {ds : List Nat} (h : 0 < prod ds) : ∀ d ∈ ds, 0 < d := by
  induction ds with
  | nil => intro d hd; cases hd
  | cons x r ih =>
    intro d hd
    have h' : 0 < x * prod r := h
    rcases List.mem_cons.mp hd with e | hd
    · subst e; exact Nat.pos_of_mul_pos_right h' 
    · exact ih (Nat.pos_of_mul_pos_left h') d hd
/-- sides as Python holds them -/
def iv (ds : List Nat) : List L2.V := ds.map fun n : Nat => L2.V.int (n : Int)
theorem iv_len (ds : List Nat) : (iv ds).length = ds.length := List.length_map _
theorem iv_get {ds : List Nat} {i : Nat} {x : L2.V} (h : (iv ds)[i]? = some x) : ∃ d, ds[i]? = some d ∧ x = .int (d : Int) := by
  unfold iv at h
  rw [List.getElem?_map] at h
  cases q : ds[i]? with
  | none => rw [q] at h; cases h
  | some d => rw [q] at h; exact ⟨d, rfl, (Option.some.inj h).symm⟩
theorem iv_at {ds : List Nat} {i d : Nat} (h : ds[i]? = some d) : (iv ds)[i]? = some (.int (d : Int)) := by
  unfold iv
  rw [List.getElem?_map, h]
  rfl
theorem iv_int (ds : List Nat) : iv ds = (ds.map fun n : Nat => (n : Int)).map L2.V.int := by
  unfold iv
  rw [List.map_map]
  rfl
theorem vi_get {ns : List Int} {i : Nat} {x : L2.V} (h : (ns.map L2.V.int)[i]? = some x) : ∃ n, ns[i]? = some n ∧ x = .int n := by
  rw [List.getElem?_map] at h
  cases q : ns[i]? with
  | none => rw [q] at h; cases h
  | some d => rw [q] at h; exact ⟨d, rfl, (Option.some.inj h).symm⟩
theorem vi_at {ns : List Int} {i : Nat} {n : Int} (h : ns[i]? = some n) : (ns.map L2.V.int)[i]? = some (.int n) := by
  rw [List.getElem?_map, h]
  rfl
/-! ### places -/
/-- the place of coordinates, begun with acc; none where they are refused -/
def plc : Nat → List Nat → List Int → Option Nat
  | acc, [], [] => some acc
  | acc, s :: r, o :: q => if o < 0 ∨ o ≥ (s : Int) then none else plc (acc * s + o.toNat) r q
  | _, [], _ :: _ => none
  | _, _ :: _, [] => none
theorem plc_len : ∀ {acc : Nat} {ds : List Nat} {at' : List Int}, at'.length ≠ ds.length → plc acc ds at' = none
  | _, [], [], h => absurd rfl h
  | _, [], _ :: _, _ => rfl
  | _, _ :: _, [], _ => rfl
  | acc, s :: r, o :: q, h => by
    unfold plc
    split
    · rfl
    · exact plc_len fun e => h (by rw [List.length_cons, List.length_cons, e])
theorem plc_bad : ∀ {acc : Nat} {ds : List Nat} {at' : List Int} {k s : Nat} {o : Int}, ds[k]? = some s → at'[k]? = some o → (o < 0 ∨ o ≥ (s : Int)) → plc acc ds at' = none
  | _, [], _, k, _, _, h, _, _ => by simp at h
  | _, _ :: _, [], k, _, _, _, h, _ => by simp at h
  | acc, s :: r, o :: q, 0, s', o', h, h', b => by
    have e1 : s = s' := Option.some.inj h
    have e2 : o = o' := Option.some.inj h'
    subst e1 e2
    unfold plc
    rw [if_pos b]
  | acc, s :: r, o :: q, k + 1, s', o', h, h', b => by
    unfold plc
    split
    · rfl
    · exact plc_bad (k := k) (by simpa using h) (by simpa using h') b
/-- the coordinates of a place, the last one first -/
def digs : List Nat → Nat → List Nat
  | [], _ => []
  | s :: r, p => p % s :: digs r (p / s)
def coords (ds : List Nat) (p : Nat) : List Nat := (digs ds.reverse p).reverse
theorem digs_len : ∀ (rs : List Nat) (p : Nat), (digs rs p).length = rs.length
  | [], _ => rfl
  | s :: r, p => by
    show (digs r (p / s)).length + 1 = r.length + 1
    rw [digs_len r]
theorem coords_len (ds : List Nat) (p : Nat) : (coords ds p).length = ds.length := by
  unfold coords
  rw [List.length_reverse, digs_len, List.length_reverse]
/-- what is left of a place behind i sides from the back -/
def leftP : List Nat → Nat → Nat
  | [], p => p
  | s :: r, p => leftP r (p / s)
theorem leftP_snoc : ∀ (rs : List Nat) (s p : Nat), leftP (rs ++ [s]) p = leftP rs p / s
  | [], s, p => rfl
  | t :: r, s, p => leftP_snoc r s (p / t)
theorem digs_snoc : ∀ (rs : List Nat) (s p : Nat), digs (rs ++ [s]) p = digs rs p ++ [leftP rs p % s]
  | [], s, p => rfl
  | t :: r, s, p => by
    show p % t :: digs (r ++ [s]) (p / t) = (p % t :: digs r (p / t)) ++ [leftP r (p / t) % s]
    rw [digs_snoc r]
    rfl
/-- the running total of coordinates that lie within -/
def tot : Nat → List Nat → List Nat → Nat
  | acc, s :: r, o :: q => tot (acc * s + o) r q
  | acc, _, _ => acc
theorem tot_snoc : ∀ (acc : Nat) (ds os : List Nat) (s o : Nat), ds.length = os.length → tot acc (ds ++ [s]) (os ++ [o]) = tot acc ds os * s + o
  | acc, [], [], s, o, _ => rfl
  | acc, [], _ :: _, _, _, h => by simp at h
  | acc, _ :: _, [], _, _, h => by simp at h
  | acc, d :: ds, x :: os, s, o, h => tot_snoc (acc * d + x) ds os s o (by simpa using h)
theorem tot_digs : ∀ (rs : List Nat) (p : Nat), p < prod rs → tot 0 rs.reverse (digs rs p).reverse = p
  | [], p, h => by
    have h : p < 1 := h
    show 0 = p
    omega
  | s :: r, p, h => by
    have h : p < s * prod r := h
    have hs : 0 < s := Nat.pos_of_mul_pos_right (Nat.lt_of_le_of_lt (Nat.zero_le _) h)
    have hq : p / s < prod r := Nat.div_lt_of_lt_mul h
    have ih := tot_digs r (p / s) hq
    show tot 0 (s :: r).reverse (p % s :: digs r (p / s)).reverse = p
    rw [List.reverse_cons, List.reverse_cons, tot_snoc _ _ _ _ _ (by rw [List.length_reverse, List.length_reverse, digs_len]), ih]
    rw [Nat.mul_comm]
    exact Nat.div_add_mod p s
theorem prod_reverse (ds : List Nat) : prod ds.reverse = prod ds := by
  induction ds with
  | nil => rfl
  | cons d r ih =>
    rw [List.reverse_cons, prod_append, ih]
    show prod r * (d * 1) = d * prod r
    rw [Nat.mul_one, Nat.mul_comm]
theorem tot_coords {ds : List Nat} {p : Nat} (h : p < prod ds) : tot 0 ds (coords ds p) = p := by
  have q := tot_digs ds.reverse p (by rw [prod_reverse]; exact h)
  rw [List.reverse_reverse] at q
  exact q
/-- each coordinate lies within its side -/
def within : List Nat → List Nat → Prop
  | [], [] => True
  | s :: r, o :: q => o < s ∧ within r q
  | _, _ => False
theorem within_get : ∀ {ds os : List Nat} {i s o : Nat}, within ds os → ds[i]? = some s → os[i]? = some o → o < s
  | [], [], _, _, _, _, h, _ => by simp at h
  | [], _ :: _, _, _, _, h, _, _ => h.elim
  | _ :: _, [], _, _, _, h, _, _ => h.elim
  | s :: r, o :: q, 0, s', o', h, h1, h2 => by
    have e1 : s = s' := Option.some.inj h1
    have e2 : o = o' := Option.some.inj h2
    subst e1 e2
    exact h.1
  | s :: r, o :: q, i + 1, s', o', h, h1, h2 => within_get (i := i) h.2 (by simpa using h1) (by simpa using h2)
theorem within_snoc : ∀ {ds os : List Nat} {s o : Nat}, within ds os → o < s → within (ds ++ [s]) (os ++ [o])
  | [], [], _, _, _, h => ⟨h, True.intro⟩
  | [], _ :: _, _, _, h, _ => h.elim
  | _ :: _, [], _, _, h, _ => h.elim
  | _ :: _, _ :: _, _, _, h, h2 => ⟨h.1, within_snoc h.2 h2⟩
theorem within_digs : ∀ (rs : List Nat) (p : Nat), (∀ d ∈ rs, 0 < d) → within rs.reverse (digs rs p).reverse
  | [], _, _ => True.intro
  | s :: r, p, h => by
    show within (s :: r).reverse (p % s :: digs r (p / s)).reverse
    rw [List.reverse_cons, List.reverse_cons]
    exact within_snoc (within_digs r _ fun d hd => h d (List.mem_cons_of_mem _ hd)) (Nat.mod_lt _ (h s List.mem_cons_self))
theorem within_coords {ds : List Nat} {p : Nat} (h : p < prod ds) : within ds (coords ds p) := by
  have q := within_digs ds.reverse p fun d hd => prod_pos (Nat.lt_of_le_of_lt (Nat.zero_le _) h) d (List.mem_reverse.mp hd)
  rw [List.reverse_reverse] at q
  exact q
theorem plc_tot : ∀ {acc : Nat} {ds os : List Nat}, within ds os → plc acc ds (os.map fun n : Nat => (n : Int)) = some (tot acc ds os)
  | _, [], [], _ => rfl
  | _, [], _ :: _, h => h.elim
  | _, _ :: _, [], h => h.elim
  | acc, s :: r, o :: q, h => by
    show plc acc (s :: r) ((o : Int) :: q.map fun n : Nat => (n : Int)) = _
    unfold plc
    have h1 : o < s := h.1
    rw [if_neg (by omega), plc_tot h.2]
    rfl
theorem plc_coords {ds : List Nat} {p : Nat} (h : p < prod ds) : plc 0 ds ((coords ds p).map fun n : Nat => (n : Int)) = some p := by
  rw [plc_tot (within_coords h), tot_coords h]
theorem tot_take {acc : Nat} : ∀ {ds os : List Nat} {i s o : Nat}, ds[i]? = some s → os[i]? = some o → tot acc (ds.take (i + 1)) (os.take (i + 1)) = tot acc (ds.take i) (os.take i) * s + o := fun {ds os i s o} h1 h2 => by
  obtain ⟨l1, _⟩ := List.getElem?_eq_some_iff.mp h1
  obtain ⟨l2, _⟩ := List.getElem?_eq_some_iff.mp h2
  rw [take_get h1, take_get h2, tot_snoc]
  rw [List.length_take, List.length_take]
  omega
/-! ### wrapping -/
abbrev lowV : Int := -9223372036854775808
abbrev m64 : Int := (2 : Int) ^ (64 : Int).toNat
theorem m64_eq : m64 = 18446744073709551616 := by decide
def wrap (n : Int) : Int := (n - lowV).fmod m64 + lowV
theorem wrap_low (n : Int) : lowV ≤ wrap n := by
  unfold wrap
  have := Int.fmod_nonneg_of_pos (n - lowV) (b := m64) (by rw [m64_eq]; decide)
  omega
theorem wrap_high (n : Int) : wrap n < 9223372036854775808 := by
  unfold wrap
  have h := Int.fmod_lt_of_pos (n - lowV) (b := m64) (by rw [m64_eq]; decide)
  rw [m64_eq] at h ⊢
  show (n - lowV).fmod 18446744073709551616 + -9223372036854775808 < 9223372036854775808
  omega
theorem wrap_held (n : Int) : (wrap n - n).fmod m64 = 0 := by
  unfold wrap
  rw [m64_eq, Int.fmod_eq_emod_of_nonneg _ (by decide), Int.fmod_eq_emod_of_nonneg _ (by decide)]
  omega
/-! ### what stands in the script -/
def lawAt (ns : List Int) (k : Nat) : Int := ns.getD k 0
end K9

set_option Elab.async false
set_option linter.all false
set_option maxRecDepth 100000
set_option maxHeartbeats 2000000
/-! Rules that the layer lacks: a try whose several clauses all bind the same name. -/
namespace L2
open PySem PySem.Spec PyProof.Rows
/-- the clause's name is forgotten behind its suite -/
def endsBut (D : Ends) (i : Nat) : Ends :=
  { nx := fun σ H => D.nx (σ.set i none) H, rt := D.rt, bk := fun σ H => D.bk (σ.set i none) H, ct := fun σ H => D.ct (σ.set i none) H }
/-- what the clauses wish, one behind the other, each binding slot i -/
def wEach (K : PySem.W.Frag) (i : Nat) (Wout : WX) (D : Ends) : List (Value × (Addr → Value → Option Addr → TS)) → WX
  | [] => Wout
  | (c, ts) :: r => fun cls d σ H => ∃ b, PySem.W.exmOne K cls c = some b ∧
      (b = true → ∀ a, H a = none → ts a cls d (endsBut D i) (σ.set i (some (.ref a))) H) ∧ (b = false → wEach K i Wout D r cls d σ H)
inductive ClausesOk (X : Cx) (n : Str) : List ExceptHandler → List (Value × (Addr → Value → Option Addr → TS)) → Prop
  | nil : ClausesOk X n [] []
  | cons {x : Str} {c : Value} {ts : Addr → Value → Option Addr → TS} {st : Stmt} {sts : List Stmt} {p q : Pos} {hs : List ExceptHandler} {l : List (Value × (Addr → Value → Option Addr → TS))}
      (nm : Names X x c)
      (su : ∀ (a : Addr) (oe : Obj) (cls : Value) (d : Option Addr) (pn : List (Addr × Obj)), Zc cls d oe → (∃ vs, oe.data = .fields vs) → PSs (X.suite a ((a, oe) :: pn)) (st :: sts) (ts a cls d))
      (more : ClausesOk X n hs l) : ClausesOk X n (.ExceptHandler (some (.Name x p)) (some n) (st :: sts) q :: hs) ((c, ts) :: l)
section
variable {X : Cx} {n : Str} {i : Nat} {Wout : WX}
/-- an exception a that has landed in the frame goes through the clauses -/
theorem clauses_run (hs : X.stack = X.env :: X.outer) (hf : X.env.frame = some X.env.locals) (hN : X.N.Nodup) (hi : X.N[i]? = some n) (hln : X.env.kindOf n = some .local) (tk : Takes X Wout)
    {pins : List (Addr × Obj)} {σ : St} {H : Hp} {D : Ends} {B h3 : Heap} {a : Addr} {sa s1 : Shared} {cls : Value} {d : Option Addr} (Ia : Inv X pins σ H sa)
    (nb : ∀ b o, sa.heap.get? b = some o → b ∉ frs X.stack → B.get? b = some o) (up : sa.heap.UpToSlots h3) (fl : HandSPX.FlyingZ B (X.env :: X.outer) a (Zc cls d) h3)
    (na : H a = none) (os : s1.os = sa.os) (ag : AllBare s1.gens)
    {hds : List ExceptHandler} {l : List (Value × (Addr → Value → Option Addr → TS))} (ck : ClausesOk X n hds l) :
    wEach X.K i Wout D l cls d σ H → wpAny (model X.prog X.w) X.A (handleBy (.ref a) X.env hds) (SP X pins D) X.xe { s1 with heap := h3 } := by
  have ok := Ia.ok
  have Ia3 : Inv X pins σ H { s1 with heap := h3 } := Ia.landed nb fl.1 up os ag
  obtain ⟨ob3, ws3, ge3, gz3, gd3⟩ := fl.there
  have away : a ∉ frs (X.env :: X.outer) := fun mm => by
    obtain ⟨_, o', e', no⟩ := fl.2.2.1.mem mm
    rw [ge3] at e'
    cases e'
    exact no _ gd3
  have aL : a ≠ X.env.locals := fun z => away (List.mem_filterMap.mpr ⟨X.env, List.mem_cons_self, by rw [hf, z]⟩)
  have aF : a ∉ X.fs := fun mm => by
    obtain ⟨en, hen, z⟩ := List.mem_filterMap.mp mm
    exact away (List.mem_filterMap.mpr ⟨en, List.mem_cons_of_mem _ hen, z⟩)
  have Sa := Ia3.suite ge3 gd3 na aL aF
  induction ck with
  | nil =>
    intro wish
    refine wpAny_handleBy_nil ?_
    obtain ⟨_, _, _, ob, ws, T, oT, _, ge, gz, gd, g1, _⟩ := id fl
    unfold PySem.passOn
    refine wpAny_bind (wpAny_field ge gd g1 ?_)
    have nn : ¬ ((Value.ref T == Value.none) = true) := by simp
    rw [if_neg nn]
    have out : wpAny (model X.prog X.w) X.A (setFlight (.ref a) X.env.frame) (fun _ s4 => wpAny (model X.prog X.w) X.A (throw (.ref a) : Sem Flow) (SP X pins D) X.xe s4) X.xe { s1 with heap := h3 } := by
      rw [hf]
      refine HandSPX.setFlight_upZ fl fun h4 hh4 uq4 => wpAny_throw (tk _ _ ?_)
      exact ⟨a, B, sa, pins, σ, H, cls, d, rfl, Ia, nb, up.trans uq4, .inr (.inr (by rw [hs]; exact hh4)), na, os, ag, wish⟩
    first
      | exact wpAny_bind (wpAny_pure (wpAny_bind out))
      | exact wpAny_bind out
  | @cons x c ts st sts p q hs2 l2 nm su more ih =>
    intro wish
    obtain ⟨b, hb, yes, no⟩ := wish
    refine wpAny_handleBy_cons (codeAny_handlers_test ?_) (by intro z; cases z)
    have LT : PySem.W.Looks (model X.prog X.w) h3 (typeOf (.ref a)) cls := fun A' Q' E' s' k z => wpAny_typeOf_ref (k _ _ ge3) (by rw [gz3.1]; exact z)
    have LM := PySem.W.exm_one (M := model X.prog X.w) (Ia3.kIn) LT hb
    have named : ∀ {Q E : Value → Shared → Prop}, Q c { s1 with heap := h3 } → wpAny (model X.prog X.w) (X.A.mark (some (.ref a))) (eval (.Name x p) X.env) Q E { s1 with heap := h3 } := fun {Q E} z => by
      obtain ⟨hg, hdb, mm | ⟨mm, hv, hnn⟩⟩ := nm
      · exact ld_glob (X := X.suite a ((a, ob3) :: (X.pn ++ pins))) Sa hg mm z hdb
      · exact ld_blt (X := X.suite a ((a, ob3) :: (X.pn ++ pins))) Sa hg mm hv z hnn hdb
    refine named (LM.here ?_)
    cases b with
    | false =>
      show wpAny _ X.A (handleBy (.ref a) X.env hs2) _ _ _
      exact ih (no rfl)
    | true =>
      refine codeAny_handlers_suite_as (HandSPX.lands_againZ fl fun h4 fy4 uq4 => ?_)
      have Ia4 : Inv X pins σ H { s1 with heap := h4 } := Ia.landed nb fy4.1 (up.trans uq4) os ag
      obtain ⟨ob4, ws4, ge4, gz4, gd4⟩ := fy4.there
      have Sb := Ia4.suite ge4 gd4 na aL aF
      refine store_ok (X := X.suite a ((a, ob4) :: (X.pn ++ pins))) (v := .ref a) Sb hN hi (.inl hln) rfl (fun s5 Sc => ?_) (.inr hln)
      refine wpAny_mono ((su a ob4 cls d (X.pn ++ pins) gz4 ⟨_, gd4⟩).run [] s5 _ H _ Sc (yes rfl a na)) (fun f s6 got => ?_) (fun _ _ z => False.elim z)
      have unbound : ∀ {σ6 : St} {H6 : Hp} {Q : Shared → Prop}, Inv (X.suite a ((a, ob4) :: (X.pn ++ pins))) [] σ6 H6 s6 → (∀ s7, Inv X pins (σ6.set i none) H6 s7 → Q s7) →
          wpAny (model X.prog X.w) X.A (do bindName X.env n .none; unbindBehindTheSuite X.env n q) (fun _ s7 => Q s7) X.xe s6 := fun {σ6 H6 Q} Sd z => gone_ok (Sd.unsuite ok) hN hi hln z
      cases f with
      | next =>
        obtain ⟨σ6, H6, Sd, z6⟩ := got
        exact unbound Sd fun s7 J7 => ⟨_, _, J7, z6⟩
      | brk =>
        obtain ⟨σ6, H6, Sd, z6⟩ := got
        exact unbound Sd fun s7 J7 => ⟨_, _, J7, z6⟩
      | cont =>
        obtain ⟨σ6, H6, Sd, z6⟩ := got
        exact unbound Sd fun s7 J7 => ⟨_, _, J7, z6⟩
      | ret u =>
        obtain ⟨v6, σ6, H6, Sd, w6, z6⟩ := got
        exact unbound Sd fun s7 J7 => ⟨_, _, _, J7, w6, z6⟩
/-- try: body, except x1 as n: .., except x2 as n: .. -/
theorem ps_try_each {body : List Stmt} {h0 : ExceptHandler} {hds : List ExceptHandler} {l : List (Value × (Addr → Value → Option Addr → TS))} {pos : Pos} {tb : WX → TS}
    (hs : X.stack = X.env :: X.outer) (hf : X.env.frame = some X.env.locals) (hN : X.N.Nodup) (hi : X.N[i]? = some n) (hln : X.env.kindOf n = some .local) (tk : Takes X Wout)
    (hb : ∀ (Wi : WX) (pn1 : List (Addr × Obj)) (xe1 : Value → Shared → Prop), Takes (X.tr pn1 xe1) Wi → PassesOwn (model X.prog X.w) X.A X.env xe1 → PSs (X.tr pn1 xe1) body (tb Wi))
    (ck : ClausesOk X n (h0 :: hds) l) : PS X (.Try body (h0 :: hds) [] [] pos) (fun D σ H => tb (wEach X.K i Wout D l) D σ H) := by
  refine ⟨fun pn0 s σ H D I h => ?_⟩
  have ok := I.ok
  have fr : X.A.frames = some (X.env :: X.outer) := by rw [ok.frames, hs]
  refine wpAny_Try_except ?_
  refine wpAny_mono ((hb (wEach X.K i Wout D l) (X.pn ++ pn0) (fun e s2 => wpAny (model X.prog X.w) X.A (noteFrame e X.env) (fun _ s3 => wpAny (model X.prog X.w) X.A (setFlight e none) (fun _ s4 =>
    wpAny (model X.prog X.w) X.A (handleBy e X.env (h0 :: hds)) (SP X pn0 D) X.xe s4) X.xe s3) X.xe s2) (fun u s' xx => ?_) PassesOwn.looking).run [] s σ H D (I.toTry _) h) (fun f s1 got => ?_) (fun e s1 z => z)
  · obtain ⟨a, B, sa, pins', σ', H', cls, d, rfl, In, nb, up, sky, na, os, ag, wish⟩ := xx
    have Ia : Inv X pn0 σ' H' sa := In.ofTry ok
    have sky2 : Sky B (X.env :: X.outer) a (Zc cls d) X.env.locals s'.heap := by rw [← hs]; exact sky
    show wpAny _ X.A (noteFrame (.ref a) X.env) _ _ _
    refine Sky.land Zc.steady fr hf sky2 fun h3 fy3 uq3 => ?_
    exact clauses_run hs hf hN hi hln tk Ia nb (up.trans uq3) fy3 na os ag ck wish
  · cases f with
    | next =>
      obtain ⟨σ2, H2, In, z⟩ := got
      exact wpAny_execs_nil ⟨σ2, H2, In.ofTry ok, z⟩
    | brk =>
      obtain ⟨σ2, H2, In, z⟩ := got
      exact ⟨σ2, H2, In.ofTry ok, z⟩
    | cont =>
      obtain ⟨σ2, H2, In, z⟩ := got
      exact ⟨σ2, H2, In.ofTry ok, z⟩
    | ret u =>
      obtain ⟨v, σ2, H2, In, r, z⟩ := got
      exact ⟨v, σ2, H2, In.ofTry ok, r, z⟩
end
end L2

set_option Elab.async false
set_option linter.all false
set_option maxRecDepth 100000
set_option maxHeartbeats 4000000
/-! Rules that the layer lacks: isinstance of a caught error with a tuple of classes, str of a truth value, tuple * 0 and * 1; tuple + tuple and slices in one way. -/
namespace L2
open PySem PySem.Spec PyProof.Rows
/-- isinstance(e, (C1, C2, ..)), e the exception that the suite holds -/
def rIsET (K : PySem.W.Frag) (D a : Addr) : List V → Hp → VK → Prop := fun xs H Q => ∃ (tp : Addr) (cs : List V) (us : List Value) (b : Bool),
  xs = [.ref a, .ref tp] ∧ H tp = some (.tup cs) ∧ Paired ClsV cs us ∧ PySem.W.kitAny K (.ref D) us = some b ∧ Q (.bl b) H
theorem call_isET {X : Cx} {a D : Addr} {oe : Obj} {pn : List (Addr × Obj)} (C : ExcC X.K D) (hz : Zc (.ref D) none oe) (hf : ∃ vs, oe.data = .fields vs) :
    CallR (X.suite a ((a, oe) :: pn)) (.builtin "isinstance") (rIsET X.K D a) := by
  intro pn0 s σ H xs us Q I r h
  obtain ⟨tp, cs, ws, b, rfl, hT, pc, ek, q⟩ := h
  obtain ⟨y1, y2, rfl, ry1, ry2⟩ := vals2 r
  cases (show y1 = Value.ref a from ry1)
  cases (show y2 = Value.ref tp from ry2)
  obtain ⟨_, us2, rv, o, h1, h2, m, h3⟩ := I.hok tp _ hT
  have e3 := ClsV.all pc rv
  subst e3
  obtain ⟨oc, od, dt, sl⟩ := o
  simp only at h2 h3
  subst h2 h3
  obtain ⟨hg0, _⟩ := I.pin (a, oe) (List.mem_append.mpr (.inl List.mem_cons_self))
  obtain ⟨vs, hv⟩ := hf
  have Ia : PySem.W.InstAt s.heap a oe D none := by
    obtain ⟨c1, c2, c3, c4⟩ := oe
    obtain ⟨z1, z2⟩ := hz
    dsimp only at z1 z2 hv
    subst z1 z2 hv
    exact ⟨hg0, rfl, rfl, trivial⟩
  have Z := PySem.W.handS_kitx_exc (x := a) (ox := oe) C.hg C.hk C.hs C.hd C.ha C.hn C.ht C.hm
  exact PySem.W.kia_tup Z I.kIn Ia h1 ek (fun z => nomatch z) fun tk => ⟨.bl b, H, I.kept (t' := tk) fun _ _ z => z, rfl, q⟩
/-- str(True), str(False) -/
theorem call_str_bl {X : Cx} : CallR X (.type "str") (fun xs H Q => ∃ b, xs = [.bl b] ∧ Q (.str (if b = true then "True" else "False")) H) := by
  intro pn0 s σ H xs us Q I r h
  obtain ⟨b, rfl, q⟩ := h
  obtain ⟨u, rfl, rb⟩ := vals1 r
  cases (show u = Value.bool b from rb)
  exact PySem.P.str_of_bool ⟨.str _, H, I.tok _, ⟨_, rfl⟩, q⟩
/-- t * 1: the tuple itself -/
theorem mulT_one (l : Addr) (items : Array Value) (n : Nat) (dd : Option Addr) (sl : Array (Option Value)) (u : Tok) :
    Meets (Builtin.«tuple.__mul__» ⟨[.ref l, .int 1 u], []⟩) (fun _ R s => s.heap.get? l = some { cls := .type "tuple", dict := dd, data := .seq items n, slots := sl } ∧ R (.ok (.ret (.ref l))) s) :=
  .of_wp fun prog w A R s h => by
    obtain ⟨hh, g, d, tk, os⟩ := s
    obtain ⟨hl, h⟩ := h
    have f1 := AutoSeq1.idx_int
    have c1 : (items.isEmpty || (1 : Int) == 1) = true := by simp
    wp_walk using (wpAny_loadPart' hl)
    repeat (first
      | (refine wpAny_ite_true (decide_eq_true c1) ?_; wp_walk using (wpAny_loadPart' hl)))
    exact ⟨_, rfl, h⟩
/-- t * 0: an empty tuple -/
theorem mulT_zero (l : Addr) (items : Array Value) (n : Nat) (dd : Option Addr) (sl : Array (Option Value)) (u : Tok) (he : items.isEmpty = false) :
    Meets (Builtin.«tuple.__mul__» ⟨[.ref l, .int 0 u], []⟩) (fun _ R s => s.heap.get? l = some { cls := .type "tuple", dict := dd, data := .seq items n, slots := sl } ∧
      R (.ok (.ret (Value.ref s.heap.objs.size))) { s with heap := s.heap.push { cls := Value.type "tuple", data := Data.seq #[] }, toks := s.toks }) :=
  .of_wp fun prog w A R s h => by
    obtain ⟨hh, g, d, tk, os⟩ := s
    obtain ⟨hl, h⟩ := h
    have f1 := AutoSeq1.idx_int
    have c1 : (items.isEmpty || (0 : Int) == 1) = false := by rw [he]; rfl
    have c2 : (decide ((0 : Int) ≤ 0) || items.isEmpty) = true := rfl
    wp_walk using (wpAny_loadPart' hl)
    repeat (first
      | (refine wpAny_ite_false (decide_eq_false (by rw [c1]; exact Bool.false_ne_true)) ?_; wp_walk using (wpAny_loadPart' hl))
      | (refine wpAny_ite_true (decide_eq_true c2) ?_; wp_walk using (wpAny_loadPart' hl)))
    exact ⟨_, rfl, h⟩
/-- t * k, k from 0 on -/
def rRepS : R2 := fun x y H Q => ∃ (l : Addr) (k : Int) (xs : List V), x = .ref l ∧ y = .int k ∧ H l = some (.tup xs) ∧ xs ≠ [] ∧ 0 ≤ k ∧ k ≤ 1000 ∧ xs.length ≤ 1000 ∧
  ∀ p H', Same H H' → H' p = some (.tup (List.replicate k.toNat xs).flatten) → Q (.ref p) H'
theorem same_laid {H : Hp} {p : Addr} (h : H p = none) (o : HO) : Same H (upd H p o) := fun b u q => by
  rw [upd_ne (ne_of_none q h)]
  exact q
theorem op_repS {X : Cx} : OpR X (binaryOp .Mult) rRepS := by
  intro pn0 s σ H x y v u Q I rx ry h
  obtain ⟨l, k, xs, rfl, rfl, hT, hne, h0, h1, hz, q⟩ := h
  by_cases h2 : 2 ≤ k
  · exact op_repT pn0 s σ H _ _ v u Q I rx ry ⟨l, k, xs, rfl, rfl, .inl (.inl hT), hne, h2, h1, hz, fun p hh => q p _ (same_laid hh _) upd_same⟩
  · cases rx
    obtain ⟨t, rfl⟩ := ry
    obtain ⟨us2, r, ⟨⟨cls, dd, data, sl⟩, ho, hc, n, hd⟩, hs⟩ := I.tuple (xs := xs) (a := l) (.inl (.inl hT))
    simp only at hc hd
    subst hc hd
    have el : us2.length = xs.length := r.length.symm
    have ine : us2 ≠ [] := fun e => hne (by
      rw [e] at el
      exact List.eq_nil_of_length_eq_zero el.symm)
    have ie : us2.toArray.isEmpty = false := by
      cases us2 with
      | nil => exact absurd rfl ine
      | cons a b => rfl
    have ks : k = 0 ∨ k = 1 := by omega
    rcases ks with rfl | rfl
    · refine wpAny_binaryOp_repeat_ref (T := "tuple") (U := "int") (by decide) ⟨_, ho, rfl⟩ (fun s' => typeIs_int s' 0 t) noFill_tuple_mul F.fills_int_mul F.slot_int_rmul repeat_tuple F.slot_int_index.lookup
        (call_meets F.slot_int_rmul (typeIs_int s 0 t) F.entry_int_rmul (F.args_int_rmul_2 _ _) (int_rmul_tuple 0 t l us2.toArray n dd sl)
          ⟨ho, rfl, ⟨_, ho, rfl⟩, call_meets F.slot_tuple_mul ⟨_, ho, rfl⟩ F.entry_tuple_mul (F.args_tuple_mul_2 _ _) (mulT_zero l us2.toArray n dd sl t ie) ⟨ho, ?_⟩⟩)
      refine ⟨.ref s.heap.objs.size, _, I.laid (t' := s.toks) (o := .tup []) (fun b ob z => Heap.get?_push_of_some _ z) (Nat.le_refl _) ?_, rfl, q _ _ (same_laid (I.hok.fresh (Nat.le_refl _)) _) upd_same⟩
      exact ⟨Nat.zero_le _, [], .nil, IsTup.new _ _⟩
    · refine wpAny_binaryOp_repeat_ref (T := "tuple") (U := "int") (by decide) ⟨_, ho, rfl⟩ (fun s' => typeIs_int s' 1 t) noFill_tuple_mul F.fills_int_mul F.slot_int_rmul repeat_tuple F.slot_int_index.lookup
        (call_meets F.slot_int_rmul (typeIs_int s 1 t) F.entry_int_rmul (F.args_int_rmul_2 _ _) (int_rmul_tuple 1 t l us2.toArray n dd sl)
          ⟨ho, rfl, ⟨_, ho, rfl⟩, call_meets F.slot_tuple_mul ⟨_, ho, rfl⟩ F.entry_tuple_mul (F.args_tuple_mul_2 _ _) (mulT_one l us2.toArray n dd sl t) ⟨ho, ?_⟩⟩)
      refine ⟨.ref l, H, I, rfl, q l H (Same.refl H) ?_⟩
      rw [hT]
      show some (HO.tup xs) = some (.tup (List.replicate 1 xs).flatten)
      simp
/-- t + u, wherever the answer stands -/
theorem catS {K : PySem.W.Frag} {a b : Addr} {xs ys : List V} {H : Hp} {Q : VK} (ha : H a = some (.tup xs)) (hb : H b = some (.tup ys)) (hz : xs.length + ys.length ≤ sizeLine)
    (q : ∀ p H', Same H H' → H' p = some (.tup (xs ++ ys)) → Q (.ref p) H') : rCatA K (.ref a) (.ref b) H Q := by
  refine ⟨a, b, xs, ys, rfl, rfl, .inl (.inl ha), .inl (.inl hb), hz, fun e => ?_, fun _ e => ?_, fun _ _ p hp => q p _ (same_laid hp _) upd_same⟩
  · subst e
    exact q b H (Same.refl H) hb
  · subst e
    refine q a H (Same.refl H) ?_
    rw [List.append_nil]
    exact ha
theorem cutV_whole {xs : List V} {lo hi : Option Int} (h : HT.sIx xs.length 0 lo = 0 ∧ HT.sIx xs.length xs.length hi = xs.length) : cutV xs lo hi = xs := by
  unfold cutV
  rw [h.1, h.2]
  simp
/-- t[lo:hi], wherever the answer stands -/
theorem cutS_ {K : PySem.W.Frag} {a : Addr} {xs : List V} {lo hi : Option Int} {H : Hp} {Q : VK} (ha : H a = some (.tup xs)) (q : ∀ p H', Same H H' → H' p = some (.tup (cutV xs lo hi)) → Q (.ref p) H') : rSlA K (.ref a) lo hi H Q := by
  refine ⟨a, xs, rfl, .inl (.inl ha), fun w => ?_, fun _ p hp => q p _ (same_laid hp _) upd_same⟩
  refine q a H (Same.refl H) ?_
  rw [cutV_whole w]
  exact ha
theorem cutV_to (xs : List V) (k : Nat) : cutV xs none (some (k : Int)) = xs.take k := by
  unfold cutV
  rw [HT.sIx_none, HT.sIx_nat]
  simp
theorem cutV_from (xs : List V) (k : Nat) : cutV xs (some (k : Int)) none = xs.drop k := by
  unfold cutV
  rw [HT.sIx_none, HT.sIx_nat]
  by_cases h : k ≤ xs.length
  · rw [Nat.min_eq_left h, List.take_of_length_le (by rw [List.length_drop]; omega)]
  · rw [Nat.min_eq_right (by omega), List.drop_eq_nil_of_le (Nat.le_refl _), List.drop_eq_nil_of_le (by omega), List.take_nil]
theorem cutV_part (xs : List V) (i k : Nat) : cutV xs (some (i : Int)) (some ((i : Int) + (k : Int))) = (xs.drop i).take k := by
  have e : (i : Int) + (k : Int) = ((i + k : Nat) : Int) := by omega
  rw [e]
  unfold cutV
  rw [HT.sIx_nat, HT.sIx_nat]
  by_cases h : i ≤ xs.length
  · rw [Nat.min_eq_left h]
    by_cases h2 : i + k ≤ xs.length
    · rw [Nat.min_eq_left h2]
      congr 1
      omega
    · rw [Nat.min_eq_right (by omega), List.take_of_length_le (by rw [List.length_drop]; omega), List.take_of_length_le (by rw [List.length_drop]; omega)]
  · rw [show min i xs.length = xs.length from Nat.min_eq_right (by omega), List.drop_eq_nil_of_le (Nat.le_refl _), List.drop_eq_nil_of_le (by omega), List.take_nil, List.take_nil]
end L2

set_option Elab.async false
set_option linter.all false
set_option maxRecDepth 100000
/-! The text by places, the names' slots, what the defs promise; the defs about numbers and sides. -/
namespace K9
open PySem PySem.Spec PyProof.Rows L2
def topS (i : Nat) : Stmt := PySem.Challenge.pw_sideloom_k09_whole_tables.main.body.getD i (.Pass ⟨0, 0, 0, 0⟩)
abbrev sWrapped : Stmt := topS 9
abbrev sAmount : Stmt := topS 13
abbrev sBreadth : Stmt := topS 14
abbrev sAllowed : Stmt := topS 15
abbrev sPlaceOf : Stmt := topS 16
abbrev sAtOf : Stmt := topS 17
abbrev sAllAt : Stmt := topS 18
abbrev sTableOf : Stmt := topS 20
abbrev sAlone : Stmt := topS 21
abbrev sCellAt : Stmt := topS 22
abbrev sNested : Stmt := topS 23
abbrev sLawAt : Stmt := topS 25
abbrev sHeld : Stmt := topS 26
abbrev sSides : Stmt := topS 27
abbrev sFlat : Stmt := topS 28
abbrev sRefusal : Stmt := topS 29
abbrev sNoCell : Stmt := topS 30
abbrev sCells : Stmt := topS 31
abbrev sStrange : Stmt := topS 32
abbrev sCount : Stmt := topS 33
abbrev sOwnLists : Stmt := topS 34
abbrev sLaw : Stmt := topS 35
theorem scWrapped : FnScope ["n"] ["n"] (defScope sWrapped) := ⟨rfl, rfl, rfl, by decide +kernel, rfl, by decide +kernel, by decide +kernel⟩
theorem scAmount : FnScope ["sides", "out", "side"] ["sides"] (defScope sAmount) := ⟨rfl, rfl, rfl, by decide +kernel, rfl, by decide +kernel, by decide +kernel⟩
theorem scBreadth : FnScope ["sides", "out", "side"] ["sides"] (defScope sBreadth) := ⟨rfl, rfl, rfl, by decide +kernel, rfl, by decide +kernel, by decide +kernel⟩
theorem scAllowed : FnScope ["sides"] ["sides"] (defScope sAllowed) := ⟨rfl, rfl, rfl, by decide +kernel, rfl, by decide +kernel, by decide +kernel⟩
theorem scPlaceOf : FnScope ["sides", "at", "place", "side", "one"] ["sides", "at"] (defScope sPlaceOf) := ⟨rfl, rfl, rfl, by decide +kernel, rfl, by decide +kernel, by decide +kernel⟩
theorem scAtOf : FnScope ["sides", "place", "out", "side"] ["sides", "place"] (defScope sAtOf) := ⟨rfl, rfl, rfl, by decide +kernel, rfl, by decide +kernel, by decide +kernel⟩
theorem scAllAt : FnScope ["sides", "place"] ["sides"] (defScope sAllAt) := ⟨rfl, rfl, rfl, by decide +kernel, rfl, by decide +kernel, by decide +kernel⟩
theorem scTableOf : FnScope ["sides", "cells", "n"] ["sides", "cells"] (defScope sTableOf) := ⟨rfl, rfl, rfl, by decide +kernel, rfl, by decide +kernel, by decide +kernel⟩
theorem scAlone : FnScope ["n"] ["n"] (defScope sAlone) := ⟨rfl, rfl, rfl, by decide +kernel, rfl, by decide +kernel, by decide +kernel⟩
theorem scCellAt : FnScope ["tab", "at"] ["tab", "at"] (defScope sCellAt) := ⟨rfl, rfl, rfl, by decide +kernel, rfl, by decide +kernel, by decide +kernel⟩
theorem scNested : FnScope ["tab", "sides", "size", "out", "k"] ["tab"] (defScope sNested) := ⟨rfl, rfl, rfl, by decide +kernel, rfl, by decide +kernel, by decide +kernel⟩
theorem scLawAt : FnScope ["script", "k"] ["script", "k"] (defScope sLawAt) := ⟨rfl, rfl, rfl, by decide +kernel, rfl, by decide +kernel, by decide +kernel⟩
theorem scHeld : FnScope ["found", "due"] ["found", "due"] (defScope sHeld) := ⟨rfl, rfl, rfl, by decide +kernel, rfl, by decide +kernel, by decide +kernel⟩
theorem scSides : FnScope ["script", "sides", "size", "left", "k", "side", "wide"] ["script"] (defScope sSides) := ⟨rfl, rfl, rfl, by decide +kernel, rfl, by decide +kernel, by decide +kernel⟩
theorem scFlat : FnScope ["thing", "sides", "out", "one", "more"] ["thing", "sides"] (defScope sFlat) := ⟨rfl, rfl, rfl, by decide +kernel, rfl, by decide +kernel, by decide +kernel⟩
theorem scRefusal : FnScope ["sides", "cells", "word", "e"] ["sides", "cells"] (defScope sRefusal) := ⟨rfl, rfl, rfl, by decide +kernel, rfl, by decide +kernel, by decide +kernel⟩
theorem scNoCell : FnScope ["tab", "at", "refused"] ["tab", "at"] (defScope sNoCell) := ⟨rfl, rfl, rfl, by decide +kernel, rfl, by decide +kernel, by decide +kernel⟩
theorem scCells : FnScope ["tab", "sides", "cells", "places", "flat", "k", "total", "one", "side"] ["tab", "sides", "cells"] (defScope sCells) := ⟨rfl, rfl, rfl, by decide +kernel, rfl, by decide +kernel, by decide +kernel⟩
theorem scStrange : FnScope ["tab", "sides", "drawn", "asked", "k", "at", "j", "side"] ["tab", "sides", "drawn"] (defScope sStrange) := ⟨rfl, rfl, rfl, by decide +kernel, rfl, by decide +kernel, by decide +kernel⟩
theorem scCount : FnScope ["thing", "one"] ["thing"] (defScope sCount) := ⟨rfl, rfl, rfl, by decide +kernel, rfl, by decide +kernel, by decide +kernel⟩
theorem scOwnLists : FnScope ["tab", "sides", "size", "told", "places", "first", "k"] ["tab", "sides", "size"] (defScope sOwnLists) := ⟨rfl, rfl, rfl, by decide +kernel, rfl, by decide +kernel, by decide +kernel⟩
theorem scLaw : FnScope ["script", "sides", "size", "side", "cells", "handed", "tab", "lone", "k"] ["script"] (defScope sLaw) := ⟨rfl, rfl, rfl, by decide +kernel, rfl, by decide +kernel, by decide +kernel⟩
/-! ### promises -/
abbrev Tu (H : Hp) (a : Addr) (xs : List V) : Prop := H a = some (.tup xs)
def spWrapped : Sp := fun vs H Q _ => ∃ n : Int, vs = [.int n] ∧ Q (.int (wrap n)) H
/-- sides that the walk can bear -/
def Few (ds : List Nat) : Prop := ds.length ≤ 100 ∧ ∀ d ∈ ds, d < 1000000
def spAmount : Sp := fun vs H Q _ => ∃ (a : Addr) (ds : List Nat), vs = [.ref a] ∧ Tu H a (iv ds) ∧ Few ds ∧ Q (.int (prod ds : Nat)) H
def spBreadth : Sp := fun vs H Q _ => ∃ (a : Addr) (ds : List Nat), vs = [.ref a] ∧ Tu H a (iv ds) ∧ Few ds ∧ Q (.int (brd ds : Nat)) H
section
variable {P : Program} {w : World} {K : PySem.W.Frag} {mg : Str → Option Value} {base : Heap} {f : Addr} {fd : FuncData}
theorem ok_wrapped {t : Tok} (F : Fun K "wrapped" "wrapped" sWrapped f fd) (gL : mg "LOW" = some (.int lowV t)) : FnOk P w K mg base CX0 1 f fd ["n"] spWrapped := by
  refine F.ok scWrapped (fun vs H Q E h => ?_) (fun cdv A outer s H vs Q E hr h => ?_)
  · obtain ⟨n, rfl, _⟩ := h
    rfl
  obtain ⟨n, rfl, q⟩ := h
  refine ⟨_, pss_one (ps_ret (pe_op op_add (pe_op op_modN (pe_op op_sub (pv 0) (pe_glob (v := .int lowV) rfl gL ⟨_, rfl⟩)) (pe_op op_pow pe_int pe_int)) (pe_glob (v := .int lowV) rfl gL ⟨_, rfl⟩))), ?_⟩
  refine ⟨_, rfl, n, lowV, rfl, rfl, 2, 64, rfl, rfl, ⟨by decide, by decide, by decide⟩, _, _, rfl, rfl, (by show (2 : Int) ^ (64 : Int).toNat ≠ 0; decide), _, _, rfl, rfl, q⟩
theorem ok_amount (F : Fun K "amount" "amount" sAmount f fd) : FnOk P w K mg base CX0 1 f fd ["sides"] spAmount := by
  refine F.ok scAmount (fun vs H Q E h => ?_) (fun cdv A outer s H vs Q E hr h => ?_)
  · obtain ⟨a, ds, rfl, _⟩ := h
    rfl
  obtain ⟨a, ds, rfl, hT, hf, q⟩ := h
  refine ⟨_, pss_cons (ps_set (i := 1) scAmount.nd rfl (.inl rfl) pe_int)
    (pss_cons (ps_for PassesOwn.never rfl (pi_tup (pv 0)) (pg_name (i := 2) scAmount.nd rfl (.inl rfl)) (pss_one (ps_set (i := 1) scAmount.nd rfl (.inl rfl) (pe_op op_mul (pv 1) (pv 2)))))
    (pss_one (ps_ret (pv 1)))), ?_⟩
  refine ⟨_, rfl, a, rfl, ⟨_, .inl (.inl hT)⟩, for_tup (xs := iv ds) (fun i σ H' => H' = H ∧ ∃ y, σ = [some (.ref a), some (.int (prod (ds.take i) : Nat)), y]) ⟨rfl, none, rfl⟩ (fun i σ H' _ h => ?_) (fun i x σ H' hx h => ?_) (fun σ H' h => ?_)⟩
  · rw [h.1]
    exact .inl (.inl hT)
  · obtain ⟨rfl, y, rfl⟩ := h
    obtain ⟨d, hd, rfl⟩ := iv_get hx
    have hb := hf.2 d (List.mem_of_getElem? hd)
    refine ⟨_, rfl, _, rfl, _, _, rfl, rfl, .inr ⟨by omega, by omega⟩, rfl, some (.int (d : Int)), ?_⟩
    rw [prod_take hd]
    show [some (V.ref a), some (V.int (((prod (ds.take i) : Nat) : Int) * (d : Int))), some (V.int (d : Int))] = _
    rw [← Int.natCast_mul]
  · obtain ⟨rfl, y, rfl⟩ := h
    rw [iv_len, List.take_length]
    exact ⟨_, rfl, q⟩
theorem ok_breadth (F : Fun K "breadth" "breadth" sBreadth f fd) (mM : mg "max" = none) : FnOk P w K mg base CX0 1 f fd ["sides"] spBreadth := by
  refine F.ok scBreadth (fun vs H Q E h => ?_) (fun cdv A outer s H vs Q E hr h => ?_)
  · obtain ⟨a, ds, rfl, _⟩ := h
    rfl
  obtain ⟨a, ds, rfl, hT, hf, q⟩ := h
  refine ⟨_, pss_cons (ps_set (i := 1) scBreadth.nd rfl (.inl rfl) pe_int)
    (pss_cons (ps_for PassesOwn.never rfl (pi_tup (pv 0)) (pg_name (i := 2) scBreadth.nd rfl (.inl rfl)) (pss_one (ps_set (i := 1) scBreadth.nd rfl (.inl rfl)
      (pe_op op_mul (pv 1) (pe_callB (call_max2 rfl) (by rfl) mM (by decide +kernel) (pa_cons pe_int (pa_cons (pv 2) pa_nil)))))))
    (pss_one (ps_ret (pv 1)))), ?_⟩
  refine ⟨_, rfl, a, rfl, ⟨_, .inl (.inl hT)⟩, for_tup (xs := iv ds) (fun i σ H' => H' = H ∧ ∃ y, σ = [some (.ref a), some (.int (brd (ds.take i) : Nat)), y]) ⟨rfl, none, rfl⟩ (fun i σ H' _ h => ?_) (fun i x σ H' hx h => ?_) (fun σ H' h => ?_)⟩
  · rw [h.1]
    exact .inl (.inl hT)
  · obtain ⟨rfl, y, rfl⟩ := h
    obtain ⟨d, hd, rfl⟩ := iv_get hx
    have hb := hf.2 d (List.mem_of_getElem? hd)
    have hm : (if (d : Int) > 1 then (d : Int) else 1) = ((max 1 d : Nat) : Int) := by
      by_cases h1 : (d : Int) > 1
      · rw [if_pos h1]
        omega
      · rw [if_neg h1]
        omega
    refine ⟨_, rfl, _, rfl, _, _, rfl, ?_⟩
    rw [hm]
    refine ⟨_, _, rfl, rfl, .inr ⟨by omega, by omega⟩, rfl, some (.int (d : Int)), ?_⟩
    rw [brd_take hd]
    show [some (V.ref a), some (V.int (((brd (ds.take i) : Nat) : Int) * ((max 1 d : Nat) : Int))), some (V.int (d : Int))] = _
    rw [← Int.natCast_mul]
  · obtain ⟨rfl, y, rfl⟩ := h
    rw [iv_len, List.take_length]
    exact ⟨_, rfl, q⟩
end
end K9

set_option Elab.async false
set_option linter.all false
set_option maxRecDepth 100000
/-! Sides: which are allowed, places and coordinates. -/
namespace K9
open PySem PySem.Spec PyProof.Rows L2 RZ RT
/-- an error class of the program's own, at C -/
structure ErrT (K : PySem.W.Frag) (mg : Str → Option Value) (x : Str) (C : Addr) : Prop where
  g : mg x = some (.ref C)
  x : PySem.W.excIn K C [.type "ValueError", .type "Exception", .type "BaseException", .type "object"] "ValueError.__new__" = true
  k : PySem.W.keepIn K (.ref C) = true
  b : PySem.W.subIn K (.ref C) (.type "BaseException") = some true
  t : PySem.W.typeIn K (.ref C) = some (.type "type")
/-- allowed sides -/
def Ok (ds : List Nat) : Prop := ds.length ≤ 6 ∧ brd ds ≤ 512
theorem Ok.few {ds : List Nat} (h : Ok ds) : Few ds := ⟨by have := h.1; omega, fun d hd => by have := mem_le_brd hd; have := h.2; omega⟩
def spAllowed (CT : Addr) : Sp := fun vs H Q E => ∃ (a : Addr) (ds : List Nat), vs = [.ref a] ∧ Tu H a (iv ds) ∧ Few ds ∧ (Ok ds → Q (.ref a) H) ∧ (¬ Ok ds → E (.ref CT) none H)
def spPlace (CN : Addr) : Sp := fun vs H Q E => ∃ (a b : Addr) (ds : List Nat) (os : List Int), vs = [.ref a, .ref b] ∧ Tu H a (iv ds) ∧ Tu H b (os.map V.int) ∧ Few ds ∧
  (∀ n, plc 0 ds os = some n → ∀ H', Same H H' → Q (.int (n : Nat)) H') ∧ (plc 0 ds os = none → ∀ H', Same H H' → E (.ref CN) none H')
def spAtOf : Sp := fun vs H Q _ => ∃ (a : Addr) (ds : List Nat) (p : Nat), vs = [.ref a, .int (p : Nat)] ∧ Tu H a (iv ds) ∧ Few ds ∧ p < prod ds ∧
  ∀ q H', Same H H' → H q = none → Tu H' q (iv (coords ds p)) → Q (.ref q) H'
theorem _root_.L2.Same.tu {H H' : Hp} {a : Addr} {xs : List V} (s : Same H H') (h : Tu H a xs) : Tu H' a xs := s _ _ h
theorem _root_.L2.Same.put {H H1 : Hp} {p : Addr} {o : HO} (s : Same H H1) (h : H p = none) : Same H (L2.upd H1 p o) := fun b u e => by
  rw [upd_ne (ne_of_none e h)]
  exact s b u e
section
variable {P : Program} {w : World} {K : PySem.W.Frag} {mg : Str → Option Value} {base : Heap} {f fB fA : Addr} {fd fdB fdA : FuncData}
theorem ok_allowed {CT : Addr} {t1 t2 : Tok} (F : Fun K "allowed" "allowed" sAllowed f fd) (GB : FnOk P w K mg base CX0 1 fB fdB ["sides"] spBreadth) (bB : Binds K fdB ["sides"] []) (kB : PySem.W.keepIn K (.ref fB) = true) (gB : mg "breadth" = some (.ref fB))
    (T : ErrT K mg "TooLarge" CT) (ml : mg "len" = none) (g1 : mg "MOST_SIDES" = some (.int 6 t1)) (g2 : mg "MOST_BREADTH" = some (.int 512 t2)) :
    FnOk P w K mg base (L2.CX P w) 2 f fd ["sides"] (spAllowed CT) := by
  refine F.okX scAllowed (fun vs H Q E h => ?_) (fun cdv A outer s H vs Q E hr h => ?_)
  · obtain ⟨a, ds, rfl, _⟩ := h
    rfl
  obtain ⟨a, ds, rfl, hT, hf, q, e⟩ := h
  refine ⟨_, pss_cons (ps_if (PW.pt (pw_or (pt_cmpR op_gt (pe_callB call_len_seq (by rfl) ml PySem.boot_len (pa_cons (pv 0) pa_nil)) (pe_glob (v := .int 6) rfl g1 ⟨_, rfl⟩) (nomark _))
      (pw_or1 (pt_cmpR op_gt (pe_call GB hr (by rfl) gB kB bB .nil pass0 (pa_cons (pv 0) pa_nil)) (pe_glob (v := .int 512) rfl g2 ⟨_, rfl⟩) (nomark _)))))
      (pss_one (ps_raise rfl (takes_of rfl rfl rfl rfl) (pmk_own PySem.F.excBase_ValueError T.x T.g T.k (raises_own T.b T.t) (by rfl)))) pss_nil)
    (pss_one (ps_ret (pv 0))), ?_⟩
  refine ⟨_, rfl, a, _, rfl, .inr (.inl (.inl hT)), _, _, rfl, rfl, _, rfl, ?_⟩
  rw [iv_len]
  refine ite2 (fun c => ?_) (fun c => ?_)
  · have c' : (ds.length : Int) > 6 := of_decide_eq_true c
    refine iteT (e fun o => ?_)
    have := o.1
    omega
  · have c' : ¬ (ds.length : Int) > 6 := of_decide_eq_false (Bool.eq_false_iff.mpr c)
    refine ⟨_, rfl, a, ds, rfl, hT, hf, _, _, rfl, rfl, _, rfl, ?_⟩
    refine ite2 (fun c2 => ?_) (fun c2 => ?_)
    · have d : (brd ds : Int) > 512 := of_decide_eq_true c2
      exact e fun o => by have := o.2; omega
    · have d : ¬ (brd ds : Int) > 512 := of_decide_eq_false (Bool.eq_false_iff.mpr c2)
      exact ⟨_, rfl, q ⟨by omega, by omega⟩⟩
theorem ok_place {CN : Addr} (F : Fun K "place_of" "place_of" sPlaceOf f fd) (T : ErrT K mg "NoPlace" CN) (ml : mg "len" = none) (mz : mg "zip" = none) :
    FnOk P w K mg base (L2.CX P w) 1 f fd ["sides", "at"] (spPlace CN) := by
  refine F.okX scPlaceOf (fun vs H Q E h => ?_) (fun cdv A outer s H vs Q E hr h => ?_)
  · obtain ⟨a, b, ds, os, rfl, _⟩ := h
    rfl
  obtain ⟨a, b, ds, os, rfl, hA, hB, hf, q, e⟩ := h
  refine ⟨_, pss_cons (ps_if (pt_cmpR op_ne (pe_callB call_len_seq (by rfl) ml PySem.boot_len (pa_cons (pv 1) pa_nil)) (pe_callB call_len_seq (by rfl) ml PySem.boot_len (pa_cons (pv 0) pa_nil)) (nomark _))
      (pss_one (ps_raise rfl (takes_of rfl rfl rfl rfl) (pmk_own PySem.F.excBase_ValueError T.x T.g T.k (raises_own T.b T.t) (by rfl)))) pss_nil)
    (pss_cons (ps_set (i := 2) scPlaceOf.nd rfl (.inl rfl) pe_int)
    (pss_cons (ps_for (passes_of rfl) rfl (pi_zipA (by rfl) mz (pa_cons (pv 0) (pa_cons (pv 1) pa_nil)))
        (pg_tup rfl (pgs_cons (pg_name (i := 3) scPlaceOf.nd rfl (.inl rfl)) (pgs_cons (pg_name (i := 4) scPlaceOf.nd rfl (.inl rfl)) pgs_nil)))
      (pss_cons (ps_if (PW.pt (pw_or (pt_cmpR op_lt (pv 4) pe_int (nomark _)) (pw_or1 (pt_cmpR op_ge (pv 4) (pv 3) (nomark _)))))
        (pss_one (ps_raise rfl (takes_of rfl rfl rfl rfl) (pmk_own PySem.F.excBase_ValueError T.x T.g T.k (raises_own T.b T.t) (by rfl)))) pss_nil)
      (pss_one (ps_set (i := 2) scPlaceOf.nd rfl (.inl rfl) (pe_op op_add (pe_op op_mul (pv 2) (pv 3)) (pv 4))))))
    (pss_one (ps_ret (pv 2))))), ?_⟩
  refine ⟨_, rfl, b, _, rfl, .inr (.inl (.inl hB)), _, rfl, a, _, rfl, .inr (.inl (.inl hA)), rfl, _, rfl, ?_⟩
  rw [iv_len, List.length_map]
  refine ite2 (fun c => ?_) (fun c => ?_)
  · have c' : ¬ V.int ((os.length : Nat) : Int) = V.int ((ds.length : Nat) : Int) := by simpa using c
    exact e (plc_len fun z => c' (by rw [z])) H (Same.refl H)
  have hl : os.length = ds.length := by
    have z : V.int ((os.length : Nat) : Int) = V.int ((ds.length : Nat) : Int) := by simpa using c
    have := V.int.inj z
    omega
  refine ⟨_, rfl, _, rfl, a, b, _, _, rfl, .inr ⟨.inl (.inl hA), .inl (.inl hB), ?_⟩⟩
  refine for_zipT (xs := iv ds) (ys := os.map V.int) (by rw [iv_len, List.length_map, hl]) (fun i σ H' => Same H H' ∧ ∃ (y3 y4 : Option V) (acc : Nat), σ = [some (.ref a), some (.ref b), some (.int (acc : Nat)), y3, y4] ∧ plc acc (ds.drop i) (os.drop i) = plc 0 ds os)
    ⟨Same.refl H, none, none, 0, rfl, rfl⟩ (fun i σ H' h => ⟨.inl (.inl (h.1.tu hA)), .inl (.inl (h.1.tu hB))⟩) (fun i x y T' σ H' hx hy h nT => ?_) (fun σ H' h => ?_)
  · obtain ⟨sm, y3, y4, acc, rfl, hp⟩ := h
    obtain ⟨d, hd, rfl⟩ := iv_get hx
    obtain ⟨o, ho, rfl⟩ := vi_get hy
    have hb := hf.2 d (List.mem_of_getElem? hd)
    rw [drop_get hd, drop_get ho] at hp
    have sm2 : Same H (L2.upd H' T' (.tup [.int (d : Int), .int o])) := fun b u z => same_laid nT _ b u (sm b u z)
    refine ⟨T', [.int (d : Int), .int o], rfl, .inl (.inl upd_same), rfl, .int (d : Int), [.int o], rfl, .int o, [], rfl, rfl, ?_⟩
    refine ⟨_, rfl, _, _, rfl, rfl, _, rfl, ?_⟩
    by_cases c1 : o < 0
    · rw [decide_eq_true c1]
      refine iteT (iteT ?_)
      refine e ?_ _ sm2
      rw [← hp]
      unfold plc
      exact if_pos (.inl c1)
    · rw [decide_eq_false c1]
      refine iteF ?_
      refine ⟨_, rfl, _, rfl, _, _, rfl, rfl, _, rfl, ?_⟩
      by_cases c2 : o ≥ (d : Int)
      · rw [decide_eq_true c2]
        refine iteT ?_
        refine e ?_ _ sm2
        rw [← hp]
        unfold plc
        exact if_pos (.inr c2)
      · rw [decide_eq_false c2]
        refine iteF ?_
        refine ⟨_, rfl, _, rfl, _, _, rfl, rfl, .inr ⟨by omega, by omega⟩, _, rfl, _, _, rfl, rfl, sm2, some (.int (d : Int)), some (.int o), acc * d + o.toNat, ?_, ?_⟩
        · have z : ((acc * d + o.toNat : Nat) : Int) = (acc : Int) * (d : Int) + o := by
            rw [Int.natCast_add, Int.natCast_mul]
            omega
          rw [z]
          rfl
        · rw [← hp]
          have z : ¬ (o < 0 ∨ o ≥ (d : Int)) := by omega
          show _ = plc acc (d :: ds.drop (i + 1)) (o :: os.drop (i + 1))
          rw [plc, if_neg z]
  · obtain ⟨sm, y3, y4, acc, rfl, hp⟩ := h
    rw [iv_len, List.drop_length, ← hl, List.drop_length] at hp
    exact ⟨_, rfl, q acc hp.symm _ sm⟩
end
end K9

set_option Elab.async false
set_option linter.all false
set_option maxRecDepth 100000
/-! Coordinates of places, all of them. -/
namespace K9
open PySem PySem.Spec PyProof.Rows L2 RZ RT
def spAllAt : Sp := fun vs H Q _ => ∃ (a : Addr) (ds : List Nat), vs = [.ref a] ∧ Tu H a (iv ds) ∧ Few ds ∧ prod ds ≤ 1000 ∧
  ∀ p H' (qs : List Addr), Same H H' → H p = none → H' p = some (.lst (qs.map V.ref)) → qs.length = prod ds → (∀ k q, qs[k]? = some q → Tu H' q (iv (coords ds k))) → Q (.ref p) H'
theorem mod_nat (p d : Nat) : (p : Int).fmod (d : Int) = ((p % d : Nat) : Int) := by
  rw [Int.fmod_eq_emod_of_nonneg _ (Int.natCast_nonneg d)]
  rfl
theorem div_nat (p d : Nat) : (p : Int).fdiv (d : Int) = ((p / d : Nat) : Int) := by
  rw [Int.fdiv_eq_ediv_of_nonneg _ (Int.natCast_nonneg d)]
  rfl
theorem iv_append (a b : List Nat) : iv (a ++ b) = iv a ++ iv b := List.map_append
theorem iv_reverse (a : List Nat) : (iv a).reverse = iv a.reverse := List.map_reverse.symm
theorem rev_get {ds : List Nat} {i d : Nat} (hi : i < ds.length) (h : ds[ds.length - 1 - i]? = some d) : ds.reverse[i]? = some d := by
  rw [List.getElem?_reverse hi]
  exact h
section
variable {P : Program} {w : World} {K : PySem.W.Frag} {mg : Str → Option Value} {base : Heap} {f fB fA : Addr} {fd fdB fdA : FuncData}
theorem ok_at (F : Fun K "at_of" "at_of" sAtOf f fd) (GA : FnOk P w K mg base CX0 1 fA fdA ["sides"] spAmount) (bA : Binds K fdA ["sides"] []) (kA : PySem.W.keepIn K (.ref fA) = true) (gA : mg "amount" = some (.ref fA))
    (mr : mg "reversed" = none) (mt : mg "tuple" = none) : FnOk P w K mg base CX0 2 f fd ["sides", "place"] spAtOf := by
  refine F.ok scAtOf (fun vs H Q E h => ?_) (fun cdv A outer s H vs Q E hr h => ?_)
  · obtain ⟨a, ds, p, rfl, _⟩ := h
    rfl
  obtain ⟨a, ds, p, rfl, hA, hf, hp, q⟩ := h
  refine ⟨_, pss_cons (ps_if (PW.pt (pw_or (pt_cmpR op_lt (pv 1) pe_int (nomark _)) (pw_or1 (pt_cmpR op_ge (pv 1) (pe_call GA hr (by rfl) gA kA bA .nil pass0 (pa_cons (pv 0) pa_nil)) (nomark _)))))
      (pss_one ps_never) pss_nil)
    (pss_cons (ps_set (i := 2) scAtOf.nd rfl (.inl rfl) (pe_lst pa_nil))
    (pss_cons (ps_for PassesOwn.never rfl (pi_revA (by rfl) mr (pv 0)) (pg_name (i := 3) scAtOf.nd rfl (.inl rfl))
      (pss_cons (ps_expr (pe_bm PySem.F.plainAttrs_list PySem.F.slot_list_append PySem.F.type_list_append mt_append (pv 2) (pa_cons (pe_op op_modN (pv 1) (pv 3)) pa_nil)))
      (pss_one (ps_set (i := 1) scAtOf.nd rfl (.inl rfl) (pe_op op_fdivN (pv 1) (pv 3))))))
    (pss_one (ps_ret (pe_tupRev rfl (by rfl) mt (by rfl) mr (pv 2)))))), ?_⟩
  refine ⟨_, rfl, _, _, rfl, rfl, _, rfl, ?_⟩
  rw [decide_eq_false (by omega : ¬ (p : Int) < 0)]
  refine iteF ⟨_, rfl, _, rfl, a, ds, rfl, hA, hf, _, _, rfl, rfl, _, rfl, ?_⟩
  rw [decide_eq_false (by omega : ¬ (p : Int) ≥ (prod ds : Int))]
  refine iteF ⟨Nat.zero_le _, fun o no => ?_⟩
  have s1 : Same H (upd H o (.lst [])) := same_laid no _
  have lr : ∀ x ∈ ds, 0 < x := prod_pos (Nat.lt_of_le_of_lt (Nat.zero_le _) hp)
  refine ⟨_, rfl, a, _, rfl, .inr ⟨.inl (.inl (s1.tu hA)), ?_⟩⟩
  refine for_ItvT (K := K) (xs := iv ds) (fun i σ H' => Same H H' ∧ (H' o = some (.lst (iv (digs (ds.reverse.take i) p)))) ∧ ∃ y3, σ = [some (.ref a), some (.int (leftP (ds.reverse.take i) p : Nat)), some (.ref o), y3])
    ⟨s1, upd_same, none, rfl⟩ (fun i σ H' h => .inl (.inl (h.1.tu hA))) (fun i x σ H' hi hx h => ?_) (fun σ H' h => ?_)
  · obtain ⟨sm, ho, y3, rfl⟩ := h
    rw [iv_len] at hi hx
    obtain ⟨d, hd, rfl⟩ := iv_get hx
    have hb := hf.2 d (List.mem_of_getElem? hd)
    have h0 := lr d (List.mem_of_getElem? hd)
    have hr' := rev_get hi hd
    refine ⟨_, rfl, .inl ⟨rfl, _, .inl (.inl ho)⟩, _, rfl, _, rfl, _, _, rfl, rfl, (by show (d : Int) ≠ 0; omega), o, _, _, rfl, rfl, ho, ?_, ?_⟩
    · rw [iv_len, digs_len, List.length_take, List.length_reverse]
      exact Nat.lt_of_le_of_lt (Nat.min_le_right _ _) (small1000 (by have := hf.1; omega))
    · refine ⟨_, rfl, _, rfl, _, _, rfl, rfl, ⟨(by omega), (by omega)⟩, sm.put no, ?_, some (.int (d : Int)), ?_⟩
      · rw [upd_same]
        dsimp only
        rw [mod_nat, take_get hr', digs_snoc, iv_append]
        rfl
      · dsimp only
        rw [div_nat, take_get hr', leftP_snoc]
        rfl
  · obtain ⟨sm, ho, y3, rfl⟩ := h
    rw [iv_len, ← List.length_reverse, List.take_length] at ho
    refine ⟨_, rfl, o, _, rfl, .inl (.inl ho), fun r nr => ?_⟩
    refine q r _ (sm.put (sm.free nr)) (sm.free nr) ?_
    show upd H' r _ r = _
    rw [upd_same, iv_reverse]
    rfl
theorem ok_allAt (F : Fun K "all_at" "all_at" sAllAt f fd) (GA : FnOk P w K mg base CX0 1 fA fdA ["sides"] spAmount) (bA : Binds K fdA ["sides"] []) (kA : PySem.W.keepIn K (.ref fA) = true) (gA : mg "amount" = some (.ref fA))
    (GB : FnOk P w K mg base CX0 2 fB fdB ["sides", "place"] spAtOf) (bB : Binds K fdB ["sides", "place"] []) (kB : PySem.W.keepIn K (.ref fB) = true) (gB : mg "at_of" = some (.ref fB))
    (mr : mg "range" = none) : FnOk P w K mg base CX0 3 f fd ["sides"] spAllAt := by
  refine F.ok scAllAt (fun vs H Q E h => ?_) (fun cdv A outer s H vs Q E hr h => ?_)
  · obtain ⟨a, ds, rfl, _⟩ := h
    rfl
  obtain ⟨a, ds, rfl, hA, hf, hz, q⟩ := h
  refine ⟨_, pss_one (ps_ret (pe_lc (own := [("place", 1)]) (g := gName 1) (tt := tYes) rfl scAllAt.nd (pi_range1 (by rfl) mr (pa_cons (pe_call GA (hr.mono (by decide)) (by rfl) gA kA bA .nil pass0 (pa_cons (pv 0) pa_nil)) pa_nil))
    (blkOk_by (N := ["sides", "place"]) (sc := defScope sAllAt) (by decide +kernel)) (fun _ _ _ _ _ => pg_name (i := 1) scAllAt.nd rfl (Or.inl rfl)) (fun _ _ _ _ _ => pts_nil)
    (fun _ _ _ _ _ => pe_call GB hr (by rfl) gB kB bB .nil pass0 (pa_cons (pv 0) (pa_cons (pv 1) pa_nil))))), ?_⟩
  refine ⟨_, rfl, a, ds, rfl, hA, hf, _, rfl, by omega, by omega, fun D nD => ?_⟩
  refine lc_range (lo := 0) (fun i H' => Same H H' ∧ ∃ qs : List Addr, H' D = some (.lst (qs.map V.ref)) ∧ qs.length = i ∧ ∀ k q, qs[k]? = some q → Tu H' q (iv (coords ds k))) ⟨same_laid nD _, [], upd_same, rfl, fun k q z => by simp at z⟩ (fun i H' hi h => ?_) (fun H' h => ?_)
  · obtain ⟨sm, qs, eD, el, hq⟩ := h
    have hi' : i < prod ds := by omega
    refine ⟨rfl, _, rfl, _, rfl, a, ds, i, ?_, sm.tu hA, hf, hi', fun r H2 sm2 nr e2 => ?_⟩
    · show [V.ref a, V.int (0 + (i : Int))] = _
      rw [Int.zero_add]
    · refine ⟨_, sm2 _ _ eD, ?_, (sm.trans sm2).put nD, qs ++ [r], ?_, ?_, fun k q' z => ?_⟩
      · rw [List.length_map, el]
        exact small1000 (by omega)
      · rw [upd_same, List.map_append]
        rfl
      · rw [List.length_append, el]
        rfl
      · have ne : q' ≠ D := by
          by_cases hk : k < qs.length
          · rw [List.getElem?_append_left hk] at z
            exact ne_of (hq _ _ z) eD (by intro z; cases z)
          · rw [List.getElem?_append_right (by omega)] at z
            have hk0 : k - qs.length = 0 := by
              cases e : k - qs.length with
              | zero => rfl
              | succ n => rw [e] at z; simp at z
            rw [hk0] at z
            have z4 : r = q' := Option.some.inj z
            rw [← z4]
            exact (ne_of_none eD nr).symm
        show upd H2 D _ q' = _
        rw [upd_ne ne]
        by_cases hk : k < qs.length
        · rw [List.getElem?_append_left hk] at z
          exact sm2 _ _ (hq _ _ z)
        · rw [List.getElem?_append_right (by omega)] at z
          have hk0 : k - qs.length = 0 := by
            cases e : k - qs.length with
            | zero => rfl
            | succ n => rw [e] at z; simp at z
          rw [hk0] at z
          have z4 : r = q' := Option.some.inj z
          have z5 : k = i := by omega
          rw [← z4, z5]
          exact e2
  · obtain ⟨sm, qs, eD, el, hq⟩ := h
    exact q D H' qs sm nD eD (by omega) hq
end
end K9

set_option Elab.async false
set_option linter.all false
set_option maxRecDepth 100000
/-! Tables: made, alone, a cell of them. -/
namespace K9
open PySem PySem.Spec PyProof.Rows L2 RZ RT
/-- a table at t -/
structure Tabl (H : Hp) (t a b : Addr) (ds : List Nat) (cs : List Int) : Prop where
  top : Tu H t [.ref a, .ref b]
  sides : Tu H a (iv ds)
  cells : Tu H b (cs.map V.int)
theorem Tabl.same {H H' : Hp} {t a b : Addr} {ds : List Nat} {cs : List Int} (T : Tabl H t a b ds cs) (s : Same H H') : Tabl H' t a b ds cs := ⟨s.tu T.top, s.tu T.sides, s.tu T.cells⟩
def spTable (K : PySem.W.Frag) (CT CU : Addr) : Sp := fun vs H Q E => ∃ (a c : Addr) (ds : List Nat) (ns : List Int), vs = [.ref a, .ref c] ∧ Tu H a (iv ds) ∧ (SqL K H c (ns.map V.int) ∨ Tu H c (ns.map V.int)) ∧ Few ds ∧ ns.length ≤ 1000 ∧
  (¬ Ok ds → E (.ref CT) none H) ∧ (Ok ds → ns.length ≠ prod ds → E (.ref CU) none H) ∧
  (Ok ds → ns.length = prod ds → ∀ t b H', Same H H' → Tabl H' t a b ds (ns.map wrap) → Q (.ref t) H')
def spAlone : Sp := fun vs H Q _ => ∃ n : Int, vs = [.int n] ∧ ∀ t a b H', Same H H' → Tabl H' t a b [] [wrap n] → Q (.ref t) H'
def spCell (CN : Addr) : Sp := fun vs H Q E => ∃ (t a b o : Addr) (ds : List Nat) (cs os : List Int), vs = [.ref t, .ref o] ∧ Tabl H t a b ds cs ∧ Tu H o (os.map V.int) ∧ Few ds ∧
  ((plc 0 ds os = none ∧ ∀ H', Same H H' → E (.ref CN) none H') ∨ ∃ n c, plc 0 ds os = some n ∧ cs[n]? = some c ∧ ∀ H', Same H H' → Q (.int c) H')
section
variable {P : Program} {w : World} {K : PySem.W.Frag} {mg : Str → Option Value} {base : Heap} {f fB fA fW : Addr} {fd fdB fdA fdW : FuncData}
theorem map_take_snoc {ns : List Int} {i : Nat} {n : Int} (h : ns[i]? = some n) : ((ns.take i).map fun n => V.int (wrap n)) ++ [V.int (wrap n)] = (ns.take (i + 1)).map fun n => V.int (wrap n) := by
  rw [take_get h, List.map_append]
  rfl
theorem map_wrap (ns : List Int) : (ns.map fun n => V.int (wrap n)) = (ns.map wrap).map V.int := by
  rw [List.map_map]
  rfl
theorem ok_table {CT CU : Addr} (F : Fun K "table_of" "table_of" sTableOf f fd) (GB : FnOk P w K mg base (L2.CX P w) 2 fB fdB ["sides"] (spAllowed CT)) (bB : Binds K fdB ["sides"] []) (kB : PySem.W.keepIn K (.ref fB) = true) (gB : mg "allowed" = some (.ref fB))
    (GA : FnOk P w K mg base CX0 1 fA fdA ["sides"] spAmount) (bA : Binds K fdA ["sides"] []) (kA : PySem.W.keepIn K (.ref fA) = true) (gA : mg "amount" = some (.ref fA))
    (GW : FnOk P w K mg base CX0 1 fW fdW ["n"] spWrapped) (bW : Binds K fdW ["n"] []) (kW : PySem.W.keepIn K (.ref fW) = true) (gW : mg "wrapped" = some (.ref fW))
    (T : ErrT K mg "Unlike" CU) (ml : mg "len" = none) (mt : mg "tuple" = none) :
    FnOk P w K mg base (L2.CX P w) 3 f fd ["sides", "cells"] (spTable K CT CU) := by
  refine F.okX scTableOf (fun vs H Q E h => ?_) (fun cdv A outer s H vs Q E hr h => ?_)
  · obtain ⟨a, c, ds, ns, rfl, _⟩ := h
    rfl
  obtain ⟨a, c, ds, ns, rfl, hA, hC, hf, hn, e1, e2, q⟩ := h
  have fin : ∀ (D : Addr) (H3 : Hp), Same H H3 → H3 D = some (.lst (ns.map fun n => V.int (wrap n))) → Ok ds → ns.length = prod ds →
      (tCB (fun xs H Q => ∃ p ys, xs = [V.ref p] ∧ ((SqL K H p ys ∧ ∀ l, H l = none → Q (V.ref l) (upd H l (.tup ys))) ∨ (SqT K H p ys ∧ Q (V.ref p) H))) (fun _ H Q => Q [V.ref D] H)) [] H3 fun x H4 =>
        ∀ p, H4 p = none → Q (.ref p) (upd H4 p (.tup [.ref a, x])) := fun D H3 sm eD ok hl => by
    refine ⟨D, _, rfl, .inl ⟨.inl (.inl eD), fun b nb p np => ?_⟩⟩
    have nbH : H b = none := sm.free nb
    have s4 : Same H (upd H3 b (.tup (ns.map fun n => V.int (wrap n)))) := sm.put nbH
    have npH : H p = none := s4.free np
    have npb : p ≠ b := fun z => by rw [z, upd_same] at np; cases np
    refine q ok hl p b _ (s4.put npH) ⟨upd_same, ?_, ?_⟩
    · show upd _ p _ a = _
      exact (s4.put npH).tu hA
    · show upd _ p _ b = _
      rw [upd_ne npb.symm, upd_same, map_wrap]
  by_cases hok : Ok ds
  · by_cases hlen : ns.length = prod ds
    · rcases hC with hC | hC
      · refine ⟨_, pss_cons (ps_expr (pe_call GB hr (by rfl) gB kB bB .nil (passes_call (takes_of rfl rfl rfl rfl) (fun _ _ _ _ h => h)) (pa_cons (pv 0) pa_nil)))
          (pss_cons (ps_if (pt_cmpR op_ne (pe_callB call_len_seq (by rfl) ml PySem.boot_len (pa_cons (pv 1) pa_nil)) (pe_call GA (hr.mono (by decide)) (by rfl) gA kA bA .nil pass0 (pa_cons (pv 0) pa_nil)) (nomark _))
            (pss_one (ps_raise rfl (takes_of rfl rfl rfl rfl) (pmk_own PySem.F.excBase_ValueError T.x T.g T.k (raises_own T.b T.t) (by rfl)))) pss_nil)
          (pss_one (ps_ret (pe_tup (pa_cons (pv 0) (pa_cons (pe_callTy call_tuple_of (by rfl) mt (by decide +kernel) (pa_cons
            (pe_lc (own := [("n", 2)]) (g := gName 2) (tt := tYes) rfl scTableOf.nd (pi_list (pv 1)) (blkOk_by (N := ["sides", "cells", "n"]) (sc := defScope sTableOf) (by decide +kernel)) (fun _ _ _ _ _ => pg_name (i := 2) scTableOf.nd rfl (Or.inl rfl)) (fun _ _ _ _ _ => pts_nil)
              (fun _ _ _ _ _ => pe_call GW (hr.mono (by decide)) (by rfl) gW kW bW .nil pass0 (pa_cons (pv 2) pa_nil))) pa_nil)) pa_nil)))))), ?_⟩
        refine ⟨_, rfl, a, ds, rfl, hA, hf, fun _ => ?_, fun z => absurd hok z⟩
        refine ⟨_, rfl, c, _, rfl, .inl hC, _, rfl, a, ds, rfl, hA, hf, rfl, _, rfl, ?_⟩
        rw [List.length_map, hlen]
        refine iteNS rfl ?_
        refine ⟨_, rfl, _, rfl, c, rfl, ⟨_, hC⟩, fun D nD => ?_⟩
        refine lc_list (K := K) (a := c) (xs := ns.map V.int) (fun i H' => Same H H' ∧ H' D = some (.lst ((ns.take i).map fun n => V.int (wrap n)))) ⟨same_laid nD _, upd_same⟩ (fun i H' _ h => h.1.seq hC) (fun i x H' hx h => ?_) (fun H' h => ?_)
        · obtain ⟨sm, eD⟩ := h
          obtain ⟨n, hn', rfl⟩ := vi_get hx
          refine ⟨rfl, _, rfl, n, rfl, _, eD, ?_, sm.put nD, ?_⟩
          · rw [List.length_map, List.length_take]
            exact Nat.lt_of_le_of_lt (Nat.min_le_right _ _) (small1000 hn)
          · rw [upd_same, map_take_snoc hn']
        · obtain ⟨sm, eD⟩ := h
          rw [List.length_map, List.take_length] at eD
          obtain ⟨p, ys, e, z⟩ := fin D H' sm eD hok hlen
          refine ⟨p, ys, e, ?_⟩
          rcases z with ⟨z1, z2⟩ | ⟨z1, z2⟩
          · exact .inl ⟨z1, fun l nl => ⟨by show 2 ≤ sizeLine; decide, z2 l nl⟩⟩
          · exact .inr ⟨z1, by show 2 ≤ sizeLine; decide, z2⟩
      · refine ⟨_, pss_cons (ps_expr (pe_call GB hr (by rfl) gB kB bB .nil (passes_call (takes_of rfl rfl rfl rfl) (fun _ _ _ _ h => h)) (pa_cons (pv 0) pa_nil)))
          (pss_cons (ps_if (pt_cmpR op_ne (pe_callB call_len_seq (by rfl) ml PySem.boot_len (pa_cons (pv 1) pa_nil)) (pe_call GA (hr.mono (by decide)) (by rfl) gA kA bA .nil pass0 (pa_cons (pv 0) pa_nil)) (nomark _))
            (pss_one (ps_raise rfl (takes_of rfl rfl rfl rfl) (pmk_own PySem.F.excBase_ValueError T.x T.g T.k (raises_own T.b T.t) (by rfl)))) pss_nil)
          (pss_one (ps_ret (pe_tup (pa_cons (pv 0) (pa_cons (pe_callTy call_tuple_of (by rfl) mt (by decide +kernel) (pa_cons
            (pe_lc (own := [("n", 2)]) (g := gName 2) (tt := tYes) rfl scTableOf.nd (pi_tup (pv 1)) (blkOk_by (N := ["sides", "cells", "n"]) (sc := defScope sTableOf) (by decide +kernel)) (fun _ _ _ _ _ => pg_name (i := 2) scTableOf.nd rfl (Or.inl rfl)) (fun _ _ _ _ _ => pts_nil)
              (fun _ _ _ _ _ => pe_call GW (hr.mono (by decide)) (by rfl) gW kW bW .nil pass0 (pa_cons (pv 2) pa_nil))) pa_nil)) pa_nil)))))), ?_⟩
        refine ⟨_, rfl, a, ds, rfl, hA, hf, fun _ => ?_, fun z => absurd hok z⟩
        refine ⟨_, rfl, c, _, rfl, .inr (.inl (.inl hC)), _, rfl, a, ds, rfl, hA, hf, rfl, _, rfl, ?_⟩
        rw [List.length_map, hlen]
        refine iteNS rfl ?_
        refine ⟨_, rfl, _, rfl, c, rfl, ⟨_, .inl (.inl hC)⟩, fun D nD => ?_⟩
        refine lc_tup (K := K) (a := c) (xs := ns.map V.int) (fun i H' => Same H H' ∧ H' D = some (.lst ((ns.take i).map fun n => V.int (wrap n)))) ⟨same_laid nD _, upd_same⟩ (fun i H' _ h => .inl (.inl (h.1.tu hC))) (fun i x H' hx h => ?_) (fun H' h => ?_)
        · obtain ⟨sm, eD⟩ := h
          obtain ⟨n, hn', rfl⟩ := vi_get hx
          refine ⟨rfl, _, rfl, n, rfl, _, eD, ?_, sm.put nD, ?_⟩
          · rw [List.length_map, List.length_take]
            exact Nat.lt_of_le_of_lt (Nat.min_le_right _ _) (small1000 hn)
          · rw [upd_same, map_take_snoc hn']
        · obtain ⟨sm, eD⟩ := h
          rw [List.length_map, List.take_length] at eD
          obtain ⟨p, ys, e, z⟩ := fin D H' sm eD hok hlen
          refine ⟨p, ys, e, ?_⟩
          rcases z with ⟨z1, z2⟩ | ⟨z1, z2⟩
          · exact .inl ⟨z1, fun l nl => ⟨by show 2 ≤ sizeLine; decide, z2 l nl⟩⟩
          · exact .inr ⟨z1, by show 2 ≤ sizeLine; decide, z2⟩
    · refine ⟨_, pss_cons (ps_expr (pe_call GB hr (by rfl) gB kB bB .nil (passes_call (takes_of rfl rfl rfl rfl) (fun _ _ _ _ h => h)) (pa_cons (pv 0) pa_nil)))
          (pss_cons (ps_if (pt_cmpR op_ne (pe_callB call_len_seq (by rfl) ml PySem.boot_len (pa_cons (pv 1) pa_nil)) (pe_call GA (hr.mono (by decide)) (by rfl) gA kA bA .nil pass0 (pa_cons (pv 0) pa_nil)) (nomark _))
            (pss_one (ps_raise rfl (takes_of rfl rfl rfl rfl) (pmk_own PySem.F.excBase_ValueError T.x T.g T.k (raises_own T.b T.t) (by rfl)))) pss_nil)
          (pss_one ps_never)), ?_⟩
      refine ⟨_, rfl, a, ds, rfl, hA, hf, fun _ => ?_, fun z => absurd hok z⟩
      refine ⟨_, rfl, c, _, rfl, hC.imp id (fun z => .inl (.inl z)), _, rfl, a, ds, rfl, hA, hf, rfl, _, rfl, ?_⟩
      rw [List.length_map]
      refine ite2 (fun _ => e2 hok hlen) (fun z => ?_)
      have z2 : (ns.length : Int) = (prod ds : Int) := by simpa using z
      exact absurd (by omega) hlen
  · refine ⟨_, pss_cons (ps_expr (pe_call GB hr (by rfl) gB kB bB .nil (passes_call (takes_of rfl rfl rfl rfl) (fun _ _ _ _ h => h)) (pa_cons (pv 0) pa_nil))) pss_never, ?_⟩
    exact ⟨_, rfl, a, ds, rfl, hA, hf, fun z => absurd z hok, fun _ => e1 hok⟩
theorem ok_alone (F : Fun K "alone" "alone" sAlone f fd) (GW : FnOk P w K mg base CX0 1 fW fdW ["n"] spWrapped) (bW : Binds K fdW ["n"] []) (kW : PySem.W.keepIn K (.ref fW) = true) (gW : mg "wrapped" = some (.ref fW)) :
    FnOk P w K mg base CX0 2 f fd ["n"] spAlone := by
  refine F.ok scAlone (fun vs H Q E h => ?_) (fun cdv A outer s H vs Q E hr h => ?_)
  · obtain ⟨n, rfl, _⟩ := h
    rfl
  obtain ⟨n, rfl, q⟩ := h
  refine ⟨_, pss_one (ps_ret (pe_tup (pa_cons (pe_tup pa_nil) (pa_cons (pe_tup (pa_cons (pe_call GW hr (by rfl) gW kW bW .nil pass0 (pa_cons (pv 0) pa_nil)) pa_nil)) pa_nil)))), ?_⟩
  refine ⟨Nat.zero_le _, fun a na => ?_⟩
  refine ⟨_, rfl, n, rfl, (by show 1 ≤ sizeLine; decide), fun b nb => ⟨(by show 2 ≤ sizeLine; decide), fun t nt => ?_⟩⟩
  have s1 : Same H (upd H a (.tup [])) := same_laid na _
  have s2 := same_laid nb (.tup [V.int (wrap n)])
  have s3 := same_laid nt (.tup [V.ref a, V.ref b])
  exact q t a b _ (s1.trans (s2.trans s3)) ⟨upd_same, (s2.trans s3) _ _ upd_same, s3 _ _ upd_same⟩
theorem ok_cell {CN : Addr} (F : Fun K "cell_at" "cell_at" sCellAt f fd) (GB : FnOk P w K mg base (L2.CX P w) 1 fB fdB ["sides", "at"] (spPlace CN)) (bB : Binds K fdB ["sides", "at"] []) (kB : PySem.W.keepIn K (.ref fB) = true) (gB : mg "place_of" = some (.ref fB)) :
    FnOk P w K mg base (L2.CX P w) 2 f fd ["tab", "at"] (spCell CN) := by
  refine F.okX scCellAt (fun vs H Q E h => ?_) (fun cdv A outer s H vs Q E hr h => ?_)
  · obtain ⟨t, a, b, o, ds, cs, os, rfl, _⟩ := h
    rfl
  obtain ⟨t, a, b, o, ds, cs, os, rfl, T, hO, hf, h⟩ := h
  refine ⟨_, pss_one (ps_ret (pe_ix ix_tup (pe_ix ix_tup (pv 0) pe_int (fun _ _ => rfl))
    (pe_call GB hr (by rfl) gB kB bB .nil (passes_call (takes_of rfl rfl rfl rfl) (fun _ _ _ _ h => h)) (pa_cons (pe_ix ix_tup (pv 0) pe_int (fun _ _ => rfl)) (pa_cons (pv 1) pa_nil))) (fun _ _ => rfl))), ?_⟩
  refine ⟨_, rfl, t, _, 1, .ref b, rfl, rfl, .inl (.inl T.top), atI_nat (j := 1) rfl, ?_⟩
  refine ⟨_, rfl, t, _, 0, .ref a, rfl, rfl, .inl (.inl T.top), atI_nat (j := 0) rfl, _, rfl, a, o, ds, os, rfl, T.sides, hO, hf, fun n hn H' sm => ?_, fun hn H' sm => ?_⟩
  · rcases h with ⟨h1, _⟩ | ⟨n', c, h1, h2, h3⟩
    · rw [hn] at h1
      cases h1
    · rw [hn] at h1
      cases h1
      exact ⟨b, _, _, .int c, rfl, rfl, .inl (.inl (sm.tu T.cells)), atI_nat (vi_at h2), h3 H' sm⟩
  · rcases h with ⟨_, h2⟩ | ⟨n', c, h1, h2, h3⟩
    · exact h2 H' sm
    · rw [hn] at h1
      cases h1
end
end K9

set_option Elab.async false
set_option linter.all false
set_option maxRecDepth 100000
/-! A table nested: lists in lists, each one new and its own. -/
namespace K9
open PySem PySem.Spec PyProof.Rows L2 RZ RT
/-- the i-th part of cells along the first side -/
def chunk (m i : Nat) (cs : List Int) : List Int := (cs.drop (i * m)).take m
theorem chunk_len {m i d : Nat} {cs : List Int} (h : cs.length = d * m) (hi : i < d) : (chunk m i cs).length = m := by
  unfold chunk
  rw [List.length_take, List.length_drop, h]
  have : i * m + m ≤ d * m := by
    rw [← Nat.succ_mul]
    exact Nat.mul_le_mul (by omega) (Nat.le_refl _)
  omega
/-- at v stands the nested table of sides ds with the cells cs; its lists stand at as -/
def NA (H : Hp) : List Nat → V → List Int → List Addr → Prop
  | [], v, cs, as => ∃ c, v = .int c ∧ cs = [c] ∧ as = []
  | d :: r, v, cs, as => ∃ (p : Addr) (vs : List V) (ass : List (List Addr)), v = .ref p ∧ H p = some (.lst vs) ∧ vs.length = d ∧ ass.length = d ∧ as = p :: ass.flatten ∧
      ∀ i x l, vs[i]? = some x → ass[i]? = some l → NA H r x (chunk (prod r) i cs) l
theorem mem_flat {α : Type} {ls : List (List α)} {i : Nat} {l : List α} {x : α} (h : ls[i]? = some l) (hx : x ∈ l) : x ∈ ls.flatten :=
  List.mem_flatten.mpr ⟨l, List.mem_of_getElem? h, hx⟩
theorem NA.frame : ∀ {ds : List Nat} {H H' : Hp} {v : V} {cs : List Int} {as : List Addr}, NA H ds v cs as → (∀ x ∈ as, ∀ u, H x = some u → H' x = some u) → NA H' ds v cs as
  | [], _, _, _, _, _, h, _ => h
  | d :: r, H, H', v, cs, as, h, k => by
    obtain ⟨p, vs, ass, e, hp, l1, l2, ea, q⟩ := h
    subst ea
    exact ⟨p, vs, ass, e, k p List.mem_cons_self _ hp, l1, l2, rfl, fun i x l hx hl => (q i x l hx hl).frame fun y hy u z => k y (List.mem_cons_of_mem _ (mem_flat hl hy)) u z⟩
theorem NA.there : ∀ {ds : List Nat} {H : Hp} {v : V} {cs : List Int} {as : List Addr}, NA H ds v cs as → ∀ x ∈ as, H x ≠ none
  | [], _, _, _, _, h, x, hx => by
    obtain ⟨_, _, _, e⟩ := h
    subst e
    cases hx
  | d :: r, H, v, cs, as, h, x, hx => by
    obtain ⟨p, vs, ass, e, hp, l1, l2, ea, q⟩ := h
    subst ea
    rcases List.mem_cons.mp hx with rfl | hx
    · rw [hp]
      exact fun z => nomatch z
    · obtain ⟨l, hl, hxl⟩ := List.mem_flatten.mp hx
      obtain ⟨i, hi, ei⟩ := List.getElem_of_mem hl
      have hi2 : i < vs.length := by omega
      exact (q i vs[i] l (List.getElem?_eq_getElem hi2) (by rw [List.getElem?_eq_getElem hi, ei])).there x hxl
def spNested (n : Nat) : Sp := fun vs H Q _ => ∃ (t a b : Addr) (ds : List Nat) (cs : List Int), vs = [.ref t] ∧ Tabl H t a b ds cs ∧ Few ds ∧ cs.length = prod ds ∧ ds.length < n ∧
  ∀ v H' as, Same H H' → NA H' ds v cs as → as.Nodup → (∀ x ∈ as, H x = none) → Q v H'
theorem Few.tail {d : Nat} {r : List Nat} (h : Few (d :: r)) : Few r := ⟨by have := h.1; rw [List.length_cons] at this; omega, fun x hx => h.2 x (List.mem_cons_of_mem _ hx)⟩
theorem cut_tail (x : V) (xs : List V) : cutV (x :: xs) (some 1) none = xs := cutV_from (x :: xs) 1
theorem cut_chunk (cs : List Int) (i m : Nat) : cutV (cs.map V.int) (some ((0 + (i : Int)) * (m : Int))) (some ((0 + (i : Int)) * (m : Int) + (m : Int))) = (chunk m i cs).map V.int := by
  have e : (0 + (i : Int)) * (m : Int) = ((i * m : Nat) : Int) := by
    rw [Int.zero_add, Int.natCast_mul]
  rw [e, cutV_part]
  unfold chunk
  rw [List.map_take, List.map_drop]
theorem flat_snoc {α : Type} (ls : List (List α)) (l : List α) : (ls ++ [l]).flatten = ls.flatten ++ l := by simp
section
variable {P : Program} {w : World} {K : PySem.W.Frag} {mg : Str → Option Value} {base : Heap} {f fA : Addr} {fd fdA : FuncData}
theorem nested_zero : FnOk P w K mg base CX0 2 f fd ["tab"] (spNested 0) := by
  have no : ∀ vs H Q E, ¬ spNested 0 vs H Q E := fun vs H Q E h => by
    obtain ⟨t, a, b, ds, cs, _, _, _, _, h, _⟩ := h
    omega
  exact ⟨fun vs H Q E h => absurd h (no vs H Q E), fun A outer s H args us vs Q E _ _ _ _ h => absurd h (no vs H Q E)⟩
theorem ok_nested {n : Nat} (F : Fun K "nested" "nested" sNested f fd) (G : FnOk P w K mg base CX0 (n + 2) f fd ["tab"] (spNested n)) (bF : Binds K fd ["tab"] []) (gF : mg "nested" = some (.ref f))
    (GA : FnOk P w K mg base CX0 1 fA fdA ["sides"] spAmount) (bA : Binds K fdA ["sides"] []) (kA : PySem.W.keepIn K (.ref fA) = true) (gA : mg "amount" = some (.ref fA))
    (ml : mg "len" = none) (mr : mg "range" = none) : FnOk P w K mg base CX0 (n + 3) f fd ["tab"] (spNested (n + 1)) := by
  refine F.ok scNested (fun vs H Q E h => ?_) (fun cdv A outer s H vs Q E hr h => ?_)
  · obtain ⟨t, a, b, ds, cs, rfl, _⟩ := h
    rfl
  obtain ⟨t, a, b, ds, cs, rfl, T, hf, hl, hn, q⟩ := h
  refine ⟨_, pss_cons (ps_set (i := 1) scNested.nd rfl (.inl rfl) (pe_ix ix_tup (pv 0) pe_int (fun _ _ => rfl)))
    (pss_cons (ps_if (pt_cmpR op_eq (pe_callB call_len_seq (by rfl) ml PySem.boot_len (pa_cons (pv 1) pa_nil)) pe_int (nomark _))
      (pss_one (ps_ret (pe_ix ix_tup (pe_ix ix_tup (pv 0) pe_int (fun _ _ => rfl)) pe_int (fun _ _ => rfl)))) pss_nil)
    (pss_cons (ps_set (i := 2) scNested.nd rfl (.inl rfl) (pe_call GA (hr.mono (by omega)) (by rfl) gA kA bA .nil pass0 (pa_cons (pe_slice sl_tupA (pv 1) (po_some pe_int) po_none) pa_nil)))
    (pss_cons (ps_set (i := 3) scNested.nd rfl (.inl rfl) (pe_lst pa_nil))
    (pss_cons (ps_for PassesOwn.never rfl (pi_range1 (by rfl) mr (pa_cons (pe_ix ix_tup (pv 1) pe_int (fun _ _ => rfl)) pa_nil)) (pg_name (i := 4) scNested.nd rfl (.inl rfl))
      (pss_one (ps_expr (pe_bm PySem.F.plainAttrs_list PySem.F.slot_list_append PySem.F.type_list_append mt_append (pv 3)
        (pa_cons (pe_call G hr (by rfl) gF F.kp bF .nil pass0 (pa_cons (pe_tup (pa_cons (pe_slice sl_tupA (pv 1) (po_some pe_int) po_none) (pa_cons
          (pe_slice sl_tupA (pe_ix ix_tup (pv 0) pe_int (fun _ _ => rfl)) (po_some (pe_op op_mul (pv 4) (pv 2))) (po_some (pe_op op_add (pe_op op_mul (pv 4) (pv 2)) (pv 2)))) pa_nil))) pa_nil)) pa_nil)))))
    (pss_one (ps_ret (pv 3))))))), ?_⟩
  refine ⟨_, rfl, t, _, 0, .ref a, rfl, rfl, .inl (.inl T.top), atI_nat (j := 0) rfl, ?_⟩
  refine ⟨_, rfl, a, _, rfl, .inr (.inl (.inl T.sides)), rfl, _, rfl, ?_⟩
  rw [iv_len]
  cases ds with
  | nil =>
    refine iteT ?_
    have h1 : cs.length = 1 := hl
    obtain ⟨c, rfl⟩ : ∃ c, cs = [c] := by
      match cs, h1 with
      | [c], _ => exact ⟨c, rfl⟩
    refine ⟨_, rfl, t, _, 1, .ref b, rfl, rfl, .inl (.inl T.top), atI_nat (j := 1) rfl, b, _, 0, .int c, rfl, rfl, .inl (.inl T.cells), atI_nat (j := 0) rfl, ?_⟩
    exact q _ H [] (Same.refl H) ⟨c, rfl, rfl, rfl⟩ List.nodup_nil fun x hx => nomatch hx
  | cons d r =>
    have hne : decide (V.int (((d :: r).length : Nat) : Int) = V.int 0) = false := by
      refine decide_eq_false fun z => ?_
      have := V.int.inj z
      rw [List.length_cons] at this
      omega
    rw [hne]
    refine iteF ?_
    have hd := hf.2 d List.mem_cons_self
    refine ⟨_, rfl, 1, rfl, ?_⟩
    delta tNoPart
    refine cutS_ T.sides fun p1 H1 s1 e1 => ?_
    have e1' : Tu H1 p1 (iv r) := by
      rw [show iv (d :: r) = V.int (d : Int) :: iv r from rfl, cut_tail] at e1
      exact e1
    refine ⟨p1, r, rfl, e1', hf.tail, Nat.zero_le _, fun o no => ?_⟩
    have no0 : H o = none := s1.free no
    have s2 : Same H (upd H1 o (.lst [])) := s1.put no0
    refine ⟨_, rfl, a, _, 0, .int (d : Int), rfl, rfl, .inl (.inl (s2.tu T.sides)), atI_nat (j := 0) rfl, _, rfl, by omega, by omega, ?_⟩
    refine for_range (lo := 0) (n := (d : Int).toNat) (fun i σ H' => Same H H' ∧ ∃ (vs : List V) (ass : List (List Addr)) (y4 : Option V), σ = [some (.ref t), some (.ref a), some (.int (prod r : Nat)), some (.ref o), y4] ∧ H' o = some (.lst vs) ∧ vs.length = i ∧ ass.length = i ∧
        (o :: ass.flatten).Nodup ∧ (∀ x ∈ ass.flatten, H x = none) ∧ (∀ x ∈ ass.flatten, H' x ≠ none) ∧ ∀ j x l, vs[j]? = some x → ass[j]? = some l → NA H' r x (chunk (prod r) j cs) l)
      ⟨s2, [], [], none, rfl, upd_same, rfl, rfl, by simp, by simp, by simp, fun j x l z => by simp at z⟩ (fun i σ H' hi h => ?_) (fun σ H' h => ?_)
    · obtain ⟨sm, vs, ass, y4, rfl, ho, lv, la, nd, new, old, hq⟩ := h
      have hi' : i < d := by omega
      refine ⟨_, rfl, .inl ⟨rfl, _, .inl (.inl ho)⟩, ?_⟩
      refine ⟨_, rfl, 1, rfl, ?_⟩
      refine cutS_ (sm.tu T.sides) fun p2 H3 s3 e3 => ?_
      have sm3 := sm.trans s3
      have e3' : Tu H3 p2 (iv r) := by
        rw [show iv (d :: r) = V.int (d : Int) :: iv r from rfl, cut_tail] at e3
        exact e3
      refine ⟨_, rfl, t, _, 1, .ref b, rfl, rfl, .inl (.inl (sm3.tu T.top)), atI_nat (j := 1) rfl, ?_⟩
      refine ⟨_, rfl, _, rfl, _, _, rfl, rfl, .inl ⟨by omega, by omega⟩, _, rfl, ?_⟩
      refine ⟨_, rfl, _, rfl, _, _, rfl, rfl, .inl ⟨by omega, by omega⟩, _, rfl, _, _, rfl, rfl, _, rfl, ?_⟩
      refine cutS_ (sm3.tu T.cells) fun p3 H4 s4 e4 => ?_
      have e4' : Tu H4 p3 ((chunk (prod r) i cs).map V.int) := by
        rw [cut_chunk] at e4
        exact e4
      refine ⟨(by show 2 ≤ sizeLine; decide), fun p4 n4 => ?_⟩
      have s5 := same_laid n4 (.tup [V.ref p2, V.ref p3])
      refine ⟨p4, p2, p3, r, chunk (prod r) i cs, rfl, ⟨upd_same, (s4.trans s5).tu e3', s5.tu e4'⟩, hf.tail, chunk_len hl hi', (by rw [List.length_cons] at hn; omega), fun v H6 as s6 na nd6 new6 => ?_⟩
      have s36 : Same H' H6 := s3.trans (s4.trans (s5.trans s6))
      have ho6 := s36 _ _ ho
      refine ⟨o, vs, v, rfl, rfl, ho6, ?_, (sm.trans s36).put no0, vs ++ [v], ass ++ [as], some (.int (0 + (i : Int))), rfl, upd_same, ?_, ?_, ?_, ?_, ?_, ?_⟩
      · rw [lv]
        have : (1000000 : Nat) < sizeLine := by decide
        omega
      · rw [List.length_append, lv]
        rfl
      · rw [List.length_append, la]
        rfl
      · rw [flat_snoc, ← List.cons_append]
        refine List.nodup_append.mpr ⟨nd, nd6, fun x hx y hy e => ?_⟩
        subst e
        have z := new6 x hy
        have s35 := s3.trans (s4.trans s5)
        rcases List.mem_cons.mp hx with rfl | hx
        · rw [s35 _ _ ho] at z
          cases z
        · cases hq2 : H' x with
          | none => exact old x hx hq2
          | some u =>
            rw [s35 _ _ hq2] at z
            cases z
      · intro x hx
        rw [flat_snoc] at hx
        rcases List.mem_append.mp hx with hx | hx
        · exact new x hx
        · exact (sm.trans (s3.trans (s4.trans s5))).free (new6 x hx)
      · intro x hx
        rw [flat_snoc] at hx
        have ne : x ≠ o := by
          rcases List.mem_append.mp hx with hx | hx
          · exact fun z => (List.nodup_cons.mp nd).1 (z ▸ hx)
          · intro z
            have z2 := new6 x hx
            rw [z, (s3.trans (s4.trans s5)) _ _ ho] at z2
            cases z2
        rw [upd_ne ne]
        rcases List.mem_append.mp hx with hx | hx
        · cases hq2 : H' x with
          | none => exact absurd hq2 (old x hx)
          | some u =>
            rw [s36 _ _ hq2]
            exact fun z => nomatch z
        · exact na.there x hx
      · intro j x l hx hl2
        by_cases hj : j < vs.length
        · rw [List.getElem?_append_left hj] at hx
          rw [List.getElem?_append_left (by omega)] at hl2
          refine (hq j x l hx hl2).frame fun y hy u hu => ?_
          have ne : y ≠ o := fun z => (List.nodup_cons.mp nd).1 (z ▸ mem_flat hl2 hy)
          rw [upd_ne ne]
          exact s36 _ _ hu
        · rw [List.getElem?_append_right (by omega)] at hx hl2
          have hj0 : j - vs.length = 0 := by
            cases e : j - vs.length with
            | zero => rfl
            | succ n => rw [e] at hx; simp at hx
          have hj1 : j - ass.length = 0 := by omega
          rw [hj0] at hx
          rw [hj1] at hl2
          have ex : v = x := Option.some.inj hx
          have el : as = l := Option.some.inj hl2
          have ej : j = i := by omega
          rw [← ex, ← el, ej]
          refine na.frame fun y hy u hu => ?_
          have ne : y ≠ o := by
            intro z
            have z2 := new6 y hy
            rw [z, (s3.trans (s4.trans s5)) _ _ ho] at z2
            cases z2
          rw [upd_ne ne]
          exact hu
    · obtain ⟨sm, vs, ass, y4, rfl, ho, lv, la, nd, new, old, hq⟩ := h
      refine ⟨_, rfl, q _ H' (o :: ass.flatten) sm ⟨o, vs, ass, rfl, ho, by omega, by omega, rfl, hq⟩ nd fun x hx => ?_⟩
      rcases List.mem_cons.mp hx with rfl | hx
      · exact no0
      · exact new x hx
/-- tables of fewer than n sides -/
theorem all_nested (F : Fun K "nested" "nested" sNested f fd) (bF : Binds K fd ["tab"] []) (gF : mg "nested" = some (.ref f))
    (GA : FnOk P w K mg base CX0 1 fA fdA ["sides"] spAmount) (bA : Binds K fdA ["sides"] []) (kA : PySem.W.keepIn K (.ref fA) = true) (gA : mg "amount" = some (.ref fA))
    (ml : mg "len" = none) (mr : mg "range" = none) : ∀ n : Nat, FnOk P w K mg base CX0 (n + 2) f fd ["tab"] (spNested n)
  | 0 => nested_zero
  | n + 1 => ok_nested F (all_nested F bF gF GA bA kA gA ml mr n) bF gF GA bA kA gA ml mr
end
end K9

set_option Elab.async false
set_option linter.all false
set_option maxRecDepth 100000
/-! The law's small helpers: a number of the script, held, flat, counted. -/
namespace K9
open PySem PySem.Spec PyProof.Rows L2 RZ RT
def spLawAt (K : PySem.W.Frag) : Sp := fun vs H Q _ => ∃ (a : Addr) (ns : List Int) (k : Nat), vs = [.ref a, .int (k : Nat)] ∧ SqL K H a (ns.map V.int) ∧ Q (.int (lawAt ns k)) H
def spHeld : Sp := fun vs H Q _ => ∃ due : Int, vs = [.int (wrap due), .int due] ∧ Q (.bl true) H
def spFlat (n : Nat) : Sp := fun vs H Q _ => ∃ (v : V) (a : Addr) (ds : List Nat) (cs : List Int) (as : List Addr), vs = [v, .ref a] ∧ Tu H a (iv ds) ∧ Few ds ∧ NA H ds v cs as ∧ cs.length = prod ds ∧ cs.length ≤ 1000 ∧ ds.length < n ∧
  ∀ p H', Same H H' → H' p = some (.lst (cs.map V.int)) → Q (.ref p) H'
/-- v is a tree of lists with n numbers in it, of depth below k -/
def CTr (H : Hp) : Nat → V → Int → Prop
  | 0, _, _ => False
  | k + 1, v, n => (∃ c, v = .int c ∧ n = 1) ∨ ∃ (p : Addr) (vs : List V) (ns : List Int), v = .ref p ∧ H p = some (.lst vs) ∧ vs.length ≤ 1000000 ∧ ns.length = vs.length ∧ n = ns.sum ∧
      ∀ (i : Nat) (x : V) (m : Int), vs[i]? = some x → ns[i]? = some m → CTr H k x m
theorem CTr.same : ∀ {k : Nat} {H H' : Hp} {v : V} {n : Int}, CTr H k v n → Same H H' → CTr H' k v n
  | 0, _, _, _, _, h, _ => h.elim
  | k + 1, H, H', v, n, h, s => by
    rcases h with h | ⟨p, vs, ns, e, hp, lz, l, en, q⟩
    · exact .inl h
    · exact .inr ⟨p, vs, ns, e, s _ _ hp, lz, l, en, fun i x m hx hm => (q i x m hx hm).same s⟩
def spCount (k : Nat) : Sp := fun vs H Q _ => ∃ (v : V) (n : Int), vs = [v] ∧ CTr H k v n ∧ ∀ H', Same H H' → Q (.int n) H'
section
variable {P : Program} {w : World} {K : PySem.W.Frag} {mg : Str → Option Value} {base : Heap} {f fA : Addr} {fd fdA : FuncData}
theorem ok_lawAt (F : Fun K "_law_at" "_law_at" sLawAt f fd) (ml : mg "len" = none) : FnOk P w K mg base CX0 1 f fd ["script", "k"] (spLawAt K) := by
  refine F.ok scLawAt (fun vs H Q E h => ?_) (fun cdv A outer s H vs Q E hr h => ?_)
  · obtain ⟨a, ns, k, rfl, _⟩ := h
    rfl
  obtain ⟨a, ns, k, rfl, hS, q⟩ := h
  refine ⟨_, pss_cons (ps_if (pt_cmpR op_lt (pv 1) (pe_callB call_len_seq (by rfl) ml PySem.boot_len (pa_cons (pv 0) pa_nil)) (nomark _))
      (pss_one (ps_ret (pe_ix ix_list (pv 0) (pv 1) (fun _ _ => rfl)))) pss_nil) (pss_one (ps_ret pe_int)), ?_⟩
  refine ⟨_, rfl, _, rfl, a, _, rfl, .inl hS, _, _, rfl, rfl, _, rfl, ?_⟩
  rw [List.length_map]
  by_cases c : k < ns.length
  · rw [decide_eq_true (by omega : (k : Int) < (ns.length : Int))]
    have g : ns[k]? = some ns[k] := List.getElem?_eq_getElem c
    refine iteT ⟨_, rfl, _, rfl, a, _, _, .int ns[k], rfl, rfl, hS, atI_nat (vi_at g), ?_⟩
    have e : lawAt ns k = ns[k] := by
      unfold lawAt
      rw [List.getD_eq_getElem?_getD, g]
      rfl
    rw [← e]
    exact q
  · rw [decide_eq_false (by omega : ¬ (k : Int) < (ns.length : Int))]
    refine iteF ?_
    have e : lawAt ns k = 0 := by
      unfold lawAt
      rw [List.getD_eq_getElem?_getD, List.getElem?_eq_none (by omega)]
      rfl
    rw [e] at q
    exact q
theorem ok_held (F : Fun K "_law_held" "_law_held" sHeld f fd) (mi : mg "isinstance" = none) (m1 : mg "int" = none) (m2 : mg "bool" = none) : FnOk P w K mg base CX0 1 f fd ["found", "due"] spHeld := by
  refine F.ok scHeld (fun vs H Q E h => ?_) (fun cdv A outer s H vs Q E hr h => ?_)
  · obtain ⟨due, rfl, _⟩ := h
    rfl
  obtain ⟨due, rfl, q⟩ := h
  refine ⟨_, pss_cons (ps_if (PW.pt (pw_or (pt_not (pt_val (pe_callB call_isi (by rfl) mi (by decide +kernel) (pa_cons (pv 0) (pa_cons (pe_bltn (v := .ty "int") (u := .type "int") (by rfl) m1 (by decide +kernel) rfl) pa_nil)))))
      (pw_or (pt_val (pe_callB call_isi (by rfl) mi (by decide +kernel) (pa_cons (pv 0) (pa_cons (pe_bltn (v := .ty "bool") (u := .type "bool") (by rfl) m2 (by decide +kernel) rfl) pa_nil))))
      (pw_or (pt_cmpR op_lt (pv 0) (pe_un un_neg (pe_op op_pow pe_int pe_int)) (nomark _)) (pw_or1 (pt_cmpR op_ge (pv 0) (pe_op op_pow pe_int pe_int) (nomark _)))))))
      (pss_one (ps_ret pe_bl)) pss_nil)
    (pss_one (ps_ret (pe_cmpR op_eq (pe_op op_modN (pe_op op_sub (pv 0) (pv 1)) (pe_op op_pow pe_int pe_int)) pe_int (nomark _)))), ?_⟩
  refine ⟨_, rfl, _, _, _, _, true, rfl, .ty "int", .base (.int _), kit_ty (by decide +kernel), true, rfl, ?_⟩
  refine iteF ⟨_, rfl, _, _, _, _, false, rfl, .ty "bool", .base (.int _), kit_ty (by decide +kernel), false, rfl, ?_⟩
  refine iteF ⟨_, rfl, 2, 63, rfl, rfl, ⟨by decide, by decide, by decide⟩, _, rfl, _, _, rfl, rfl, _, rfl, ?_⟩
  have h1 := wrap_low due
  have h2 := wrap_high due
  have e1 : decide (wrap due < -((2 : Int) ^ (63 : Int).toNat)) = false := by
    refine decide_eq_false ?_
    rw [show (2 : Int) ^ (63 : Int).toNat = 9223372036854775808 by decide]
    have : lowV = -9223372036854775808 := rfl
    omega
  have e2 : decide (wrap due ≥ (2 : Int) ^ (63 : Int).toNat) = false := by
    refine decide_eq_false ?_
    rw [show (2 : Int) ^ (63 : Int).toNat = 9223372036854775808 by decide]
    omega
  rw [e1]
  refine iteF ⟨_, rfl, 2, 63, rfl, rfl, ⟨by decide, by decide, by decide⟩, _, _, rfl, rfl, _, rfl, ?_⟩
  rw [e2]
  refine iteF ⟨_, rfl, _, rfl, _, _, rfl, rfl, 2, 64, rfl, rfl, ⟨by decide, by decide, by decide⟩, _, _, rfl, rfl, (by show (2 : Int) ^ (64 : Int).toNat ≠ 0; decide), rfl, ?_⟩
  have e3 : decide (V.int ((wrap due - due).fmod ((2 : Int) ^ (64 : Int).toNat)) = V.int 0) = true := by
    rw [show (wrap due - due).fmod ((2 : Int) ^ (64 : Int).toNat) = 0 from wrap_held due]
    exact decide_eq_true rfl
  show Q (.bl (decide (V.int ((wrap due - due).fmod ((2 : Int) ^ (64 : Int).toNat)) = V.int 0))) H
  rw [e3]
  exact q
theorem flat_zero : FnOk P w K mg base CX0 1 f fd ["thing", "sides"] (spFlat 0) := by
  have no : ∀ vs H Q E, ¬ spFlat 0 vs H Q E := fun vs H Q E h => by
    obtain ⟨v, a, ds, cs, as, _, _, _, _, _, _, h, _⟩ := h
    omega
  exact ⟨fun vs H Q E h => absurd h (no vs H Q E), fun A outer s H args us vs Q E _ _ _ _ h => absurd h (no vs H Q E)⟩
theorem take_chunk (cs : List Int) (i m : Nat) : cs.take (i * m) ++ chunk m i cs = cs.take ((i + 1) * m) := by
  unfold chunk
  rw [Nat.succ_mul, List.take_add]
theorem ok_flat {n : Nat} (F : Fun K "_law_flat" "_law_flat" sFlat f fd) (G : FnOk P w K mg base CX0 (n + 1) f fd ["thing", "sides"] (spFlat n)) (bF : Binds K fd ["thing", "sides"] []) (gF : mg "_law_flat" = some (.ref f))
    (ml : mg "len" = none) (mi : mg "isinstance" = none) (m1 : mg "list" = none) : FnOk P w K mg base CX0 (n + 2) f fd ["thing", "sides"] (spFlat (n + 1)) := by
  refine F.ok scFlat (fun vs H Q E h => ?_) (fun cdv A outer s H vs Q E hr h => ?_)
  · obtain ⟨v, a, ds, cs, as, rfl, _⟩ := h
    rfl
  obtain ⟨v, a, ds, cs, as, rfl, hA, hf, na, hl, hz, hn, q⟩ := h
  refine ⟨_, pss_cons (ps_if (pt_cmpR op_eq (pe_callB call_len_seq (by rfl) ml PySem.boot_len (pa_cons (pv 1) pa_nil)) pe_int (nomark _)) (pss_one (ps_ret (pe_lst (pa_cons (pv 0) pa_nil)))) pss_nil)
    (pss_cons (ps_if (PW.pt (pw_or (pt_not (pt_val (pe_callB call_isi (by rfl) mi (by decide +kernel) (pa_cons (pv 0) (pa_cons (pe_bltn (v := .ty "list") (u := .type "list") (by rfl) m1 (by decide +kernel) rfl) pa_nil)))))
        (pw_or1 (pt_cmpR op_ne (pe_callB call_len_seq (by rfl) ml PySem.boot_len (pa_cons (pv 0) pa_nil)) (pe_ix ix_tup (pv 1) pe_int (fun _ _ => rfl)) (nomark _)))))
      (pss_one (ps_ret pe_non)) pss_nil)
    (pss_cons (ps_set (i := 2) scFlat.nd rfl (.inl rfl) (pe_lst pa_nil))
    (pss_cons (ps_for PassesOwn.never rfl (pi_list (pv 0)) (pg_name (i := 3) scFlat.nd rfl (.inl rfl))
      (pss_cons (ps_set (i := 4) scFlat.nd rfl (.inl rfl) (pe_call G hr (by rfl) gF F.kp bF .nil pass0 (pa_cons (pv 3) (pa_cons (pe_slice sl_tupA (pv 1) (po_some pe_int) po_none) pa_nil))))
      (pss_cons (ps_if (pt_cmpR op_isN (pv 4) pe_non (nomark _)) (pss_one (ps_ret pe_non)) pss_nil)
      (pss_one (ps_set (i := 2) scFlat.nd rfl (.inl rfl) (pe_op op_cat (pv 2) (pv 4)))))))
    (pss_one (ps_ret (pv 2)))))), ?_⟩
  refine ⟨_, rfl, a, _, rfl, .inr (.inl (.inl hA)), rfl, _, rfl, ?_⟩
  rw [iv_len]
  cases ds with
  | nil =>
    obtain ⟨c, rfl, rfl, rfl⟩ := na
    exact iteT ⟨_, rfl, by show 1 ≤ sizeLine; decide, fun p np => q p _ (same_laid np _) upd_same⟩
  | cons d r =>
    have hne : decide (V.int (((d :: r).length : Nat) : Int) = V.int 0) = false := by
      refine decide_eq_false fun z => ?_
      have := V.int.inj z
      rw [List.length_cons] at this
      omega
    rw [hne]
    obtain ⟨p0, vs, ass, rfl, h0, lv, la, rfl, hq⟩ := na
    refine iteF ⟨_, rfl, _, _, _, _, true, rfl, .ty "list", .base (.lst h0), kit_ty (by decide +kernel), true, rfl, ?_⟩
    refine iteF ⟨_, rfl, p0, _, rfl, .inl (.inl (.inl h0)), _, rfl, a, _, 0, .int (d : Int), rfl, rfl, .inl (.inl hA), atI_nat (j := 0) rfl, rfl, _, rfl, ?_⟩
    rw [lv]
    refine iteNS rfl ⟨Nat.zero_le _, fun o no => ?_⟩
    have s1 := same_laid no (.lst [])
    refine ⟨_, rfl, p0, rfl, ⟨_, .inl (.inl (s1 _ _ h0))⟩, ?_⟩
    refine for_list (K := K) (a := p0) (xs := vs) (fun i σ H' => Same H H' ∧ ∃ (p : Addr) (y3 y4 : Option V), σ = [some (.ref p0), some (.ref a), some (.ref p), y3, y4] ∧ H' p = some (.lst ((cs.take (i * prod r)).map V.int)))
      ⟨s1, o, none, none, rfl, by rw [Nat.zero_mul]; exact upd_same⟩ (fun i σ H' _ h => .inl (.inl (h.1 _ _ h0))) (fun i x σ H' hx h => ?_) (fun σ H' h => ?_)
    · obtain ⟨sm, p, y3, y4, rfl, hp⟩ := h
      obtain ⟨hi, _⟩ := List.getElem?_eq_some_iff.mp hx
      have hi2 : i < ass.length := by omega
      have na' := hq i x ass[i] hx (List.getElem?_eq_getElem hi2)
      refine ⟨_, rfl, _, rfl, 1, rfl, ?_⟩
      delta tNoPart
      refine cutS_ (sm.tu hA) fun p2 H3 s3 e3 => ?_
      rw [show iv (d :: r) = V.int (d : Int) :: iv r from rfl, cut_tail] at e3
      have s03 := sm.trans s3
      have lc := chunk_len (m := prod r) (i := i) (d := d) (cs := cs) hl (by omega)
      refine ⟨x, p2, r, chunk (prod r) i cs, ass[i], rfl, e3, hf.tail, na'.frame (fun y _ u hu => s03 _ _ hu), lc, ?_, (by rw [List.length_cons] at hn; omega), fun m H4 s4 em => ?_⟩
      · have : (chunk (prod r) i cs).length ≤ cs.length := by
          unfold chunk
          rw [List.length_take, List.length_drop]
          omega
        omega
      · have s34 := s3.trans s4
        refine ⟨_, rfl, rfl, _, rfl, ?_⟩
        refine iteF ⟨_, rfl, _, rfl, p, m, _, _, rfl, rfl, s34 _ _ hp, em, ?_, fun p' np => ⟨(sm.trans s34).put ((sm.trans s34).free np), p', some x, some (.ref m), rfl, ?_⟩⟩
        · rw [List.length_map, List.length_map, List.length_take]
          have : (chunk (prod r) i cs).length ≤ cs.length := by
            unfold chunk
            rw [List.length_take, List.length_drop]
            omega
          have : 2000 < sizeLine := by decide
          omega
        · rw [upd_same, ← List.map_append, take_chunk]
    · obtain ⟨sm, p, y3, y4, rfl, hp⟩ := h
      rw [lv, List.take_of_length_le (by rw [hl]; exact Nat.le_refl _)] at hp
      exact ⟨_, rfl, q p H' sm hp⟩
theorem all_flat (F : Fun K "_law_flat" "_law_flat" sFlat f fd) (bF : Binds K fd ["thing", "sides"] []) (gF : mg "_law_flat" = some (.ref f))
    (ml : mg "len" = none) (mi : mg "isinstance" = none) (m1 : mg "list" = none) : ∀ n : Nat, FnOk P w K mg base CX0 (n + 1) f fd ["thing", "sides"] (spFlat n)
  | 0 => flat_zero
  | n + 1 => ok_flat F (all_flat F bF gF ml mi m1 n) bF gF ml mi m1
theorem count_zero : FnOk P w K mg base CX0 1 f fd ["thing"] (spCount 0) := by
  have no : ∀ vs H Q E, ¬ spCount 0 vs H Q E := fun vs H Q E h => by
    obtain ⟨v, n, _, h, _⟩ := h
    exact h
  exact ⟨fun vs H Q E h => absurd h (no vs H Q E), fun A outer s H args us vs Q E _ _ _ _ h => absurd h (no vs H Q E)⟩
theorem ok_count {k : Nat} (F : Fun K "_law_count" "_law_count" sCount f fd) (G : FnOk P w K mg base CX0 (k + 1) f fd ["thing"] (spCount k)) (bF : Binds K fd ["thing"] []) (gF : mg "_law_count" = some (.ref f))
    (mi : mg "isinstance" = none) (m1 : mg "list" = none) (ms : mg "sum" = none) : FnOk P w K mg base CX0 (k + 2) f fd ["thing"] (spCount (k + 1)) := by
  refine F.ok scCount (fun vs H Q E h => ?_) (fun cdv A outer s H vs Q E hr h => ?_)
  · obtain ⟨v, n, rfl, _⟩ := h
    rfl
  obtain ⟨v, n, rfl, hc, q⟩ := h
  refine ⟨_, pss_cons (ps_if (pt_not (pt_val (pe_callB call_isi (by rfl) mi (by decide +kernel) (pa_cons (pv 0) (pa_cons (pe_bltn (v := .ty "list") (u := .type "list") (by rfl) m1 (by decide +kernel) rfl) pa_nil)))))
      (pss_one (ps_ret pe_int)) pss_nil)
    (pss_one (ps_ret (pe_callB (cr_sum rfl) (by rfl) ms (by decide +kernel) (pa_cons
      (pe_lc (own := [("one", 1)]) (g := gName 1) (tt := tYes) rfl scCount.nd (pi_list (pv 0)) (blkOk_by (N := ["thing", "one"]) (sc := defScope sCount) (by decide +kernel)) (fun _ _ _ _ _ => pg_name (i := 1) scCount.nd rfl (Or.inl rfl)) (fun _ _ _ _ _ => pts_nil)
        (fun _ _ _ _ _ => pe_call G hr (by rfl) gF F.kp bF .nil pass0 (pa_cons (pv 1) pa_nil))) pa_nil)))), ?_⟩
  rcases hc with ⟨c, rfl, rfl⟩ | ⟨p, vs, ns, rfl, hp, lz, l, rfl, hq⟩
  · refine ⟨_, rfl, _, _, _, _, false, rfl, .ty "list", .base (.int _), kit_ty (by decide +kernel), false, rfl, ?_⟩
    exact iteT (q H (Same.refl H))
  · refine ⟨_, rfl, _, _, _, _, true, rfl, .ty "list", .base (.lst hp), kit_ty (by decide +kernel), true, rfl, ?_⟩
    refine iteF ⟨_, rfl, p, rfl, ⟨_, .inl (.inl hp)⟩, fun D nD => ?_⟩
    refine lc_list (K := K) (a := p) (xs := vs) (fun i H' => Same H H' ∧ H' D = some (.lst ((ns.take i).map V.int))) ⟨same_laid nD _, upd_same⟩ (fun i H' _ h => .inl (.inl (h.1 _ _ hp))) (fun i x H' hx h => ?_) (fun H' h => ?_)
    · obtain ⟨sm, eD⟩ := h
      obtain ⟨hi, _⟩ := List.getElem?_eq_some_iff.mp hx
      have hi2 : i < ns.length := by omega
      have g : ns[i]? = some ns[i] := List.getElem?_eq_getElem hi2
      refine ⟨rfl, _, rfl, x, ns[i], rfl, (hq i x _ hx g).same sm, fun H4 s4 => ⟨_, s4 _ _ eD, ?_, (sm.trans s4).put nD, ?_⟩⟩
      · rw [List.length_map, List.length_take]
        have : 1000000 < sizeLine := by decide
        omega
      · rw [upd_same, take_get g, List.map_append]
        rfl
    · obtain ⟨sm, eD⟩ := h
      rw [← l, List.take_length] at eD
      exact ⟨D, ns, rfl, .inl (.inl eD), q H' sm⟩
theorem all_count (F : Fun K "_law_count" "_law_count" sCount f fd) (bF : Binds K fd ["thing"] []) (gF : mg "_law_count" = some (.ref f))
    (mi : mg "isinstance" = none) (m1 : mg "list" = none) (ms : mg "sum" = none) : ∀ k : Nat, FnOk P w K mg base CX0 (k + 1) f fd ["thing"] (spCount k)
  | 0 => count_zero
  | k + 1 => ok_count F (all_count F bF gF mi m1 ms k) bF gF mi m1 ms
end
end K9

set_option Elab.async false
set_option linter.all false
set_option maxRecDepth 100000
/-! What is refused, caught. -/
namespace L2
open PySem PySem.Spec PyProof.Rows
/-- isinstance of the error that the suite holds, with a class, with a tuple of classes; its own class is told in the reading -/
def rIsEg (K : PySem.W.Frag) (a : Addr) (cls : Value) (d : Option Addr) : List V → Hp → VK → Prop := fun xs H Q => ∃ (D : Addr) (c : V) (cv : Value) (b : Bool),
  cls = .ref D ∧ d = none ∧ ExcC K D ∧ xs = [.ref a, c] ∧ (∀ u, RelV c u → u = cv) ∧ PySem.W.kitOne K (.ref D) cv = some b ∧ Q (.bl b) H
def rIsETg (K : PySem.W.Frag) (a : Addr) (cls : Value) (d : Option Addr) : List V → Hp → VK → Prop := fun xs H Q => ∃ (D tp : Addr) (cs : List V) (us : List Value) (b : Bool),
  cls = .ref D ∧ d = none ∧ ExcC K D ∧ xs = [.ref a, .ref tp] ∧ H tp = some (.tup cs) ∧ Paired ClsV cs us ∧ PySem.W.kitAny K (.ref D) us = some b ∧ Q (.bl b) H
section
variable {X : Cx} {a : Addr} {oe : Obj} {cls : Value} {d : Option Addr} {pn : List (Addr × Obj)}
theorem call_isEg (hz : Zc cls d oe) (hf : ∃ vs, oe.data = .fields vs) : CallR (X.suite a ((a, oe) :: pn)) (.builtin "isinstance") (rIsEg X.K a cls d) := by
  intro pins s σ H xs us Q I r h
  obtain ⟨D, c, cv, b, rfl, rfl, C, ex, k, e, q⟩ := h
  exact call_isE (X := X) C hz hf pins s σ H xs us Q I r ⟨c, cv, b, ex, k, e, q⟩
theorem call_isETg (hz : Zc cls d oe) (hf : ∃ vs, oe.data = .fields vs) : CallR (X.suite a ((a, oe) :: pn)) (.builtin "isinstance") (rIsETg X.K a cls d) := by
  intro pins s σ H xs us Q I r h
  obtain ⟨D, tp, cs, ws, b, rfl, rfl, C, ex, hT, k, e, q⟩ := h
  exact call_isET (X := X) C hz hf pins s σ H xs us Q I r ⟨tp, cs, ws, b, ex, hT, k, e, q⟩
end
end L2
namespace K9
open PySem PySem.Spec PyProof.Rows L2 RZ RT
def spNoCell : Sp := fun vs H Q _ => ∃ (t a b o : Addr) (ds : List Nat) (cs os : List Int), vs = [.ref t, .ref o] ∧ Tabl H t a b ds cs ∧ Tu H o (os.map V.int) ∧ Few ds ∧ plc 0 ds os = none ∧ ∀ H', Same H H' → Q (.bl true) H'
def spRefusal (K : PySem.W.Frag) : Sp := fun vs H Q _ => ∃ (a c : Addr) (ds : List Nat) (ns : List Int), vs = [.ref a, .ref c] ∧ Tu H a (iv ds) ∧ (SqL K H c (ns.map V.int) ∨ Tu H c (ns.map V.int)) ∧ Few ds ∧ ns.length ≤ 1000 ∧
  ((¬ Ok ds ∧ ∀ H', Same H H' → Q (.str "largeFalse") H') ∨ (Ok ds ∧ ns.length ≠ prod ds ∧ ∀ H', Same H H' → Q (.str "unlikeFalse") H'))
/-- the error classes that a refusal meets: CT too large, CU unlike, CN, CS, CB three more, CL the class of all -/
structure Errs (K : PySem.W.Frag) (mg : Str → Option Value) (CT CU CN CS CB CL : Addr) : Prop where
  t : ErrT K mg "TooLarge" CT
  u : ErrT K mg "Unlike" CU
  n : ErrT K mg "NoPlace" CN
  gS : mg "NoSide" = some (.ref CS)
  gB : mg "Beyond" = some (.ref CB)
  gL : mg "LoomError" = some (.ref CL)
  xT : ExcC K CT
  xU : ExcC K CU
  mTT : PySem.W.exmOne K (.ref CT) (.ref CT) = some true
  mUT : PySem.W.exmOne K (.ref CU) (.ref CT) = some false
  mUU : PySem.W.exmOne K (.ref CU) (.ref CU) = some true
  mNN : PySem.W.exmOne K (.ref CN) (.ref CN) = some true
  kT : PySem.W.kitAny K (.ref CT) [.ref CU, .ref CN, .ref CS, .ref CB] = some false
  kU : PySem.W.kitAny K (.ref CU) [.ref CT, .ref CN, .ref CS, .ref CB] = some false
  lT : PySem.W.kitOne K (.ref CT) (.ref CL) = some true
  lU : PySem.W.kitOne K (.ref CU) (.ref CL) = some true
section
variable {P : Program} {w : World} {K : PySem.W.Frag} {mg : Str → Option Value} {base : Heap} {f fA : Addr} {fd fdA : FuncData} {CT CU CN CS CB CL : Addr}
theorem ok_noCell (F : Fun K "_law_no_cell" "_law_no_cell" sNoCell f fd) (GA : FnOk P w K mg base (L2.CX P w) 2 fA fdA ["tab", "at"] (spCell CN)) (bA : Binds K fdA ["tab", "at"] []) (kA : PySem.W.keepIn K (.ref fA) = true) (gA : mg "cell_at" = some (.ref fA))
    (T : Errs K mg CT CU CN CS CB CL) : FnOk P w K mg base CX0 3 f fd ["tab", "at"] spNoCell := by
  refine F.ok scNoCell (fun vs H Q E h => ?_) (fun cdv A outer s H vs Q E hr h => ?_)
  · obtain ⟨t, a, b, o, ds, cs, os, rfl, _⟩ := h
    rfl
  obtain ⟨t, a, b, o, ds, cs, os, rfl, hT, hO, hf, hp, q⟩ := h
  refine ⟨_, pss_cons (ps_set (i := 2) scNoCell.nd rfl (.inl rfl) pe_bl)
    (pss_cons (ps_try_only (tb := fun W => tDrop (tCallS (spCell CN) (WE W) (tCons (tVar 0) (tCons (tVar 1) tNil)))) (ts := fun _ _ _ => tAsg (tC (.bl true)) (gName 2)) (Wout := fun _ _ _ _ => False) rfl rfl ⟨rfl, by decide, .inl T.n.g⟩ takes0
      (fun W pn xe tk _ => pss_one (ps_expr (pe_callS GA hr (by rfl) gA kA bA (fun σ => passAt tk σ) (pa_cons (pv 0) (pa_cons (pv 1) pa_nil)))))
      (fun a oe cls d pn _ _ => pss_one (ps_set (i := 2) scNoCell.nd rfl (.inl rfl) pe_bl)))
    (pss_one (ps_ret (pv 2)))), ?_⟩
  refine ⟨_, rfl, _, rfl, t, a, b, o, ds, cs, os, rfl, hT, hO, hf, .inl ⟨hp, fun H' sm => ?_⟩⟩
  exact ⟨true, T.mNN, fun _ a ha => ⟨_, rfl, q H' sm⟩, fun z => nomatch z⟩
theorem ok_refusal (F : Fun K "_law_refusal" "_law_refusal" sRefusal f fd) (GA : FnOk P w K mg base (L2.CX P w) 3 fA fdA ["sides", "cells"] (spTable K CT CU)) (bA : Binds K fdA ["sides", "cells"] []) (kA : PySem.W.keepIn K (.ref fA) = true) (gA : mg "table_of" = some (.ref fA))
    (T : Errs K mg CT CU CN CS CB CL) (mi : mg "isinstance" = none) (ms : mg "str" = none) : FnOk P w K mg base CX0 4 f fd ["sides", "cells"] (spRefusal K) := by
  refine F.ok scRefusal (fun vs H Q E h => ?_) (fun cdv A outer s H vs Q E hr h => ?_)
  · obtain ⟨a, c, ds, ns, rfl, _⟩ := h
    rfl
  obtain ⟨a, c, ds, ns, rfl, hA, hC, hf, hn, q⟩ := h
  refine ⟨_, pss_cons (ps_set (i := 2) scRefusal.nd rfl (.inl rfl) pe_str)
    (pss_cons (ps_try_each (n := "e") (i := 3) (tb := fun W => tDrop (tCallS (spTable K CT CU) (WE W) (tCons (tVar 0) (tCons (tVar 1) tNil)))) (Wout := fun _ _ _ _ => False) rfl rfl scRefusal.nd rfl rfl takes0
      (fun W pn xe tk _ => pss_one (ps_expr (pe_callS GA hr (by rfl) gA kA bA (fun σ => passAt tk σ) (pa_cons (pv 0) (pa_cons (pv 1) pa_nil)))))
      (.cons (c := .ref CT) ⟨rfl, by decide, .inl T.t.g⟩ (fun a oe cls d pn hz hf => pss_one (ps_set (i := 2) scRefusal.nd rfl (.inl rfl) (pe_op op_add_str pe_str (pe_callTy call_str_bl (by rfl) ms (by decide +kernel) (pa_cons
          (pe_or (pe_callB (call_isETg hz hf) (by rfl) mi (by decide +kernel) (pa_cons (pv 3) (pa_cons (pe_tup (pa_cons (pe_glob (v := .ref CU) rfl T.u.g rfl) (pa_cons (pe_glob (v := .ref CN) rfl T.n.g rfl) (pa_cons (pe_glob (v := .ref CS) rfl T.gS rfl) (pa_cons (pe_glob (v := .ref CB) rfl T.gB rfl) pa_nil))))) pa_nil)))
            (pe_one (pe_not (pe_callB (call_isEg hz hf) (by rfl) mi (by decide +kernel) (pa_cons (pv 3) (pa_cons (pe_glob (v := .ref CL) rfl T.gL rfl) pa_nil)))))) pa_nil)))))
      (.cons (c := .ref CU) ⟨rfl, by decide, .inl T.u.g⟩ (fun a oe cls d pn hz hf => pss_one (ps_set (i := 2) scRefusal.nd rfl (.inl rfl) (pe_op op_add_str pe_str (pe_callTy call_str_bl (by rfl) ms (by decide +kernel) (pa_cons
          (pe_or (pe_callB (call_isETg hz hf) (by rfl) mi (by decide +kernel) (pa_cons (pv 3) (pa_cons (pe_tup (pa_cons (pe_glob (v := .ref CT) rfl T.t.g rfl) (pa_cons (pe_glob (v := .ref CN) rfl T.n.g rfl) (pa_cons (pe_glob (v := .ref CS) rfl T.gS rfl) (pa_cons (pe_glob (v := .ref CB) rfl T.gB rfl) pa_nil))))) pa_nil)))
            (pe_one (pe_not (pe_callB (call_isEg hz hf) (by rfl) mi (by decide +kernel) (pa_cons (pv 3) (pa_cons (pe_glob (v := .ref CL) rfl T.gL rfl) pa_nil)))))) pa_nil))))) .nil)))
    (pss_one (ps_ret (pv 2)))), ?_⟩
  refine ⟨_, rfl, _, rfl, a, c, ds, ns, rfl, hA, hC, hf, hn, fun no => ?_, fun ok ne => ?_, fun ok e => ?_⟩
  · rcases q with ⟨_, q⟩ | ⟨ok, _⟩
    · refine ⟨true, T.mTT, fun _ x nx => ?_, fun z => nomatch z⟩
      refine ⟨_, rfl, by show 4 ≤ sizeLine; decide, fun p np => ?_⟩
      refine ⟨CT, p, _, _, false, rfl, rfl, T.xT, rfl, upd_same, .cons (.own _) (.cons (.own _) (.cons (.own _) (.cons (.own _) .nil))), T.kT, false, rfl, ?_⟩
      refine iteF ⟨_, rfl, CT, _, .ref CL, true, rfl, rfl, T.xT, rfl, fun u hu => hu, T.lT, true, rfl, _, rfl, _, _, rfl, rfl, by decide, ?_⟩
      exact ⟨_, rfl, q _ (same_laid np _)⟩
    · exact absurd ok no
  · rcases q with ⟨no, _⟩ | ⟨_, _, q⟩
    · exact absurd ok no
    · refine ⟨false, T.mUT, (fun z => nomatch z), fun _ => ⟨true, T.mUU, fun _ x nx => ?_, fun z => nomatch z⟩⟩
      refine ⟨_, rfl, by show 4 ≤ sizeLine; decide, fun p np => ?_⟩
      refine ⟨CU, p, _, _, false, rfl, rfl, T.xU, rfl, upd_same, .cons (.own _) (.cons (.own _) (.cons (.own _) (.cons (.own _) .nil))), T.kU, false, rfl, ?_⟩
      refine iteF ⟨_, rfl, CU, _, .ref CL, true, rfl, rfl, T.xU, rfl, fun u hu => hu, T.lU, true, rfl, _, rfl, _, _, rfl, rfl, by decide, ?_⟩
      exact ⟨_, rfl, q _ (same_laid np _)⟩
  · rcases q with ⟨no, _⟩ | ⟨_, ne, _⟩
    · exact absurd ok no
    · exact absurd e ne
end
end K9

set_option Elab.async false
set_option linter.all false
set_option maxRecDepth 100000
/-! The law's sides: always allowed. -/
namespace K9
open PySem PySem.Spec PyProof.Rows L2 RZ RT
def spSides (K : PySem.W.Frag) : Sp := fun vs H Q _ => ∃ (a : Addr) (ns : List Int), vs = [.ref a] ∧ SqL K H a (ns.map V.int) ∧ ns.length ≤ 63 ∧ ∀ ds p H', Ok ds → Same H H' → Tu H' p (iv ds) → Q (.ref p) H'
theorem nz {j : Int} (h : decide (j ≠ 0) = true) : j ≠ 0 := of_decide_eq_true h
theorem fmod_lo (x : Int) {m : Int} (h : 0 < m) : 0 ≤ x.fmod m := Int.fmod_nonneg_of_pos x h
theorem fmod_hi (x : Int) {m : Int} (h : 0 < m) : x.fmod m < m := Int.fmod_lt_of_pos x h
theorem brd_ins (ds : List Nat) (j v : Nat) : brd (ds.take j ++ [v] ++ ds.drop j) = brd ds * max 1 v := by
  rw [brd_append, brd_append]
  have e : brd ds = brd (ds.take j) * brd (ds.drop j) := by rw [← brd_append, List.take_append_drop]
  rw [e]
  show brd (ds.take j) * (max 1 v * 1) * brd (ds.drop j) = _
  rw [Nat.mul_one, Nat.mul_assoc, Nat.mul_comm (max 1 v), ← Nat.mul_assoc]
theorem ok_ins {ds : List Nat} {w j : Nat} (hl : ds.length ≤ 5) (hb : brd ds ≤ 243) (hw : w ≤ 149) : Ok (ds.take j ++ [(w + brd ds - 1) / brd ds] ++ ds.drop j) := by
  refine ⟨?_, ?_⟩
  · rw [List.length_append, List.length_append, List.length_take, List.length_drop, List.length_singleton]
    omega
  · rw [brd_ins]
    have p := brd_pos ds
    have h1 : brd ds * ((w + brd ds - 1) / brd ds) ≤ w + brd ds - 1 := Nat.mul_div_le _ _
    by_cases c : (w + brd ds - 1) / brd ds ≤ 1
    · rw [Nat.max_eq_left c]
      omega
    · rw [Nat.max_eq_right (by omega)]
      omega
theorem iv_ins (ds : List Nat) (j v : Nat) : (iv ds).take j ++ [V.int (v : Int)] ++ (iv ds).drop j = iv (ds.take j ++ [v] ++ ds.drop j) := by
  unfold iv
  rw [List.map_append, List.map_append, List.map_take, List.map_drop]
  rfl
section
variable {P : Program} {w : World} {K : PySem.W.Frag} {mg : Str → Option Value} {base : Heap} {f fA : Addr} {fd fdA : FuncData}
theorem ok_sides (F : Fun K "_law_sides" "_law_sides" sSides f fd) (GA : FnOk P w K mg base CX0 1 fA fdA ["script", "k"] (spLawAt K)) (bA : Binds K fdA ["script", "k"] []) (kA : PySem.W.keepIn K (.ref fA) = true) (gA : mg "_law_at" = some (.ref fA))
    (ml : mg "len" = none) (mr : mg "range" = none) (mM : mg "max" = none) (mt : mg "tuple" = none) : FnOk P w K mg base CX0 2 f fd ["script"] (spSides K) := by
  refine F.ok scSides (fun vs H Q E h => ?_) (fun cdv A outer s H vs Q E hr h => ?_)
  · obtain ⟨a, ns, rfl, _⟩ := h
    rfl
  obtain ⟨a, ns, rfl, hS, h63, q⟩ := h
  refine ⟨_, pss_cons (ps_set (i := 1) scSides.nd rfl (.inl rfl) (pe_lst pa_nil))
    (pss_cons (ps_set (i := 2) scSides.nd rfl (.inl rfl) pe_int)
    (pss_cons (ps_set (i := 3) scSides.nd rfl (.inl rfl) (pe_call GA hr (by rfl) gA kA bA .nil pass0 (pa_cons (pv 0) (pa_cons pe_int pa_nil))))
    (pss_cons (ps_for PassesOwn.never rfl (pi_range1 (by rfl) mr (pa_cons (pe_op op_modN (pe_call GA hr (by rfl) gA kA bA .nil pass0 (pa_cons (pv 0) (pa_cons pe_int pa_nil))) pe_int) pa_nil)) (pg_name (i := 4) scSides.nd rfl (.inl rfl))
      (pss_cons (ps_set (i := 5) scSides.nd rfl (.inl rfl) (pe_op op_add pe_int (pe_op op_modN (pv 3) pe_int)))
      (pss_cons (ps_set (i := 3) scSides.nd rfl (.inl rfl) (pe_op op_fdivN (pv 3) pe_int))
      (pss_cons (ps_if (pt_cmpR op_eq (pe_op op_modN (pe_call GA hr (by rfl) gA kA bA .nil pass0 (pa_cons (pv 0) (pa_cons pe_int pa_nil))) pe_int) (pv 4) (nomark _))
        (pss_one (ps_set (i := 5) scSides.nd rfl (.inl rfl) pe_int)) pss_nil)
      (pss_cons (ps_expr (pe_bm PySem.F.plainAttrs_list PySem.F.slot_list_append PySem.F.type_list_append mt_append (pv 1) (pa_cons (pv 5) pa_nil)))
      (pss_one (ps_set (i := 2) scSides.nd rfl (.inl rfl) (pe_op op_mul (pv 2) (pe_callB (call_max2 rfl) (by rfl) mM (by decide +kernel) (pa_cons pe_int (pa_cons (pv 5) pa_nil)))))))))))
    (pss_cons (ps_set (i := 6) scSides.nd rfl (.inl rfl) (pe_callB (call_max2 rfl) (by rfl) mM (by decide +kernel) (pa_cons (pe_callB call_len_seq (by rfl) ml PySem.boot_len (pa_cons (pe_slice sl_list (pv 0) po_none (po_some pe_int)) pa_nil))
      (pa_cons (pe_op op_modN (pe_op op_fdivN (pe_call GA hr (by rfl) gA kA bA .nil pass0 (pa_cons (pv 0) (pa_cons pe_int pa_nil))) pe_int) pe_int) pa_nil))))
    (pss_cons (ps_if (PW.pt (pw_or (pt_cmpR op_gt (pe_op op_modN (pe_call GA hr (by rfl) gA kA bA .nil pass0 (pa_cons (pv 0) (pa_cons pe_int pa_nil))) pe_int) pe_int (nomark _))
        (pw_or (pt_cmpR op_gt (pv 6) pe_int (nomark _)) (pw_or1 (pt_cmpR op_gt (pe_callB call_len_seq (by rfl) ml PySem.boot_len (pa_cons (pv 1) pa_nil)) pe_int (nomark _))))))
      (pss_one (ps_expr (pe_bm PySem.F.plainAttrs_list PySem.F.slot_list_insert PySem.F.type_list_insert mt_insert (pv 1)
        (pa_cons (pe_op op_modN (pe_op op_fdivN (pe_call GA hr (by rfl) gA kA bA .nil pass0 (pa_cons (pv 0) (pa_cons pe_int pa_nil))) pe_int) (pe_op op_add (pe_callB call_len_seq (by rfl) ml PySem.boot_len (pa_cons (pv 1) pa_nil)) pe_int))
          (pa_cons (pe_op op_fdivN (pe_op op_sub (pe_op op_add (pv 6) (pv 2)) pe_int) (pv 2)) pa_nil))))) pss_nil)
    (pss_one (ps_ret (pe_callTy call_tuple_of (by rfl) mt (by decide +kernel) (pa_cons (pv 1) pa_nil))))))))), ?_⟩
  refine ⟨Nat.zero_le _, fun o no => ?_⟩
  have s1 := same_laid no (.lst [])
  refine ⟨_, rfl, a, ns, 1, rfl, s1.seq hS, ?_⟩
  refine ⟨_, rfl, a, ns, 0, rfl, s1.seq hS, _, _, rfl, rfl, nz rfl, _, rfl, ?_⟩
  have b0 := fmod_lo (lawAt ns 0) (m := 6) (by decide)
  have b1 := fmod_hi (lawAt ns 0) (m := 6) (by decide)
  refine ⟨by omega, by omega, ?_⟩
  refine for_range (lo := 0) (n := ((lawAt ns 0).fmod 6).toNat) (fun i σ H' => Same H H' ∧ ∃ (ds : List Nat) (l : Int) (y4 y5 : Option V), σ = [some (.ref a), some (.ref o), some (.int (brd ds : Nat)), some (.int l), y4, y5, none] ∧
      H' o = some (.lst (iv ds)) ∧ ds.length = i ∧ brd ds ≤ 3 ^ i) ⟨s1, [], _, none, none, rfl, upd_same, rfl, Nat.le_refl 1⟩ (fun i σ H' hi h => ?_) (fun σ H' h => ?_)
  · obtain ⟨sm, ds, l, y4, y5, rfl, ho, hl, hb⟩ := h
    have c0 := fmod_lo l (m := 3) (by decide)
    have c1 := fmod_hi l (m := 3) (by decide)
    obtain ⟨sd, hsd⟩ : ∃ sd : Nat, (sd : Int) = 1 + l.fmod 3 := ⟨(1 + l.fmod 3).toNat, by omega⟩
    refine ⟨_, rfl, _, _, rfl, rfl, nz rfl, _, _, rfl, rfl, _, rfl, _, _, rfl, rfl, ⟨by decide, by decide⟩, ?_⟩
    refine ⟨_, rfl, a, ns, 2, rfl, sm.seq hS, _, _, rfl, rfl, nz rfl, _, rfl, rfl, _, rfl, ?_⟩
    have step : ∀ sd : Nat, sd ≤ 3 → Same H (upd H' o (.lst (iv ds ++ [V.int (sd : Int)]))) ∧ upd H' o (.lst (iv ds ++ [V.int (sd : Int)])) o = some (.lst (iv (ds ++ [sd]))) ∧ (ds ++ [sd]).length = i + 1 ∧ brd (ds ++ [sd]) ≤ 3 ^ (i + 1) ∧
        (brd ds : Int) * (if (sd : Int) > 1 then (sd : Int) else 1) = (brd (ds ++ [sd]) : Nat) := fun sd h3 => by
      have e : brd (ds ++ [sd]) = brd ds * max 1 sd := by rw [brd_append]; simp [brd]
      have hm : (if (sd : Int) > 1 then (sd : Int) else 1) = ((max 1 sd : Nat) : Int) := by
        by_cases h1 : (sd : Int) > 1
        · rw [if_pos h1]
          omega
        · rw [if_neg h1]
          omega
      refine ⟨sm.put no, by rw [upd_same, iv_append]; rfl, by rw [List.length_append, hl]; rfl, ?_, ?_⟩
      · rw [e, Nat.pow_succ]
        exact Nat.mul_le_mul hb (by omega)
      · rw [e, hm, Int.natCast_mul]
    have hlt : (iv ds).length < sizeLine := by rw [iv_len]; exact small1000 (by omega)
    have hbb : brd ds ≤ 243 := Nat.le_trans hb (Nat.le_trans (Nat.pow_le_pow_right (by decide) (by omega : i ≤ 5)) (by decide))
    refine ite2 (fun c => ?_) (fun c => ?_)
    · obtain ⟨t1, t2, t3, t4, t5⟩ := step 0 (by decide)
      refine ⟨_, rfl, .inl ⟨rfl, _, .inl (.inl ho)⟩, _, rfl, o, _, _, rfl, rfl, ho, hlt, ?_⟩
      refine ⟨_, rfl, _, rfl, _, _, rfl, _, _, rfl, rfl, .inl ⟨by omega, by omega⟩, t1, ds ++ [0], l.fdiv 3, some (.int (0 + (i : Int))), some (.int 0), ?_, t2, t3, t4⟩
      rw [← t5]
      rfl
    · obtain ⟨t1, t2, t3, t4, t5⟩ := step sd (by omega)
      have e5 := congrArg (fun z => some (some (V.int z))) hsd.symm
      refine ⟨_, rfl, .inl ⟨rfl, _, .inl (.inl ho)⟩, .int (sd : Int), e5, o, _, _, rfl, rfl, ho, hlt, ?_⟩
      refine ⟨_, rfl, .int (sd : Int), e5, _, _, rfl, _, _, rfl, rfl, .inl ⟨by omega, by omega⟩, t1, ds ++ [sd], l.fdiv 3, some (.int (0 + (i : Int))), some (.int (1 + l.fmod 3)), ?_, t2, t3, t4⟩
      rw [← t5]
      rfl
  · obtain ⟨sm, ds, l, y4, y5, rfl, ho, hl, hb⟩ := h
    have h5 : ds.length ≤ 5 := by omega
    have hbb : brd ds ≤ 243 := Nat.le_trans hb (Nat.le_trans (Nat.pow_le_pow_right (by decide) (by omega : _ ≤ 5)) (by decide))
    refine ⟨_, rfl, ?_⟩
    delta tNoPart
    refine ⟨400, rfl, a, _, rfl, sm.seq hS, fun p np => ?_⟩
    have s2 : Same H (upd H' p (.lst (cutV (ns.map V.int) none (some 400)))) := sm.put (sm.free np)
    have npo : o ≠ p := ne_of_none ho np
    have ho2 : upd H' p (.lst (cutV (ns.map V.int) none (some 400))) o = some (.lst (iv ds)) := by
      rw [upd_ne npo]
      exact ho
    refine ⟨p, _, rfl, .inl (.inl (.inl upd_same)), ?_⟩
    have el : (cutV (ns.map V.int) none (some 400)).length = ns.length := by
      rw [show (400 : Int) = ((400 : Nat) : Int) from rfl, cutV_to, List.length_take, List.length_map]
      omega
    refine ⟨_, rfl, a, ns, 3, rfl, s2.seq hS, _, _, rfl, rfl, ⟨by decide, by decide⟩, _, _, rfl, rfl, nz rfl, _, _, rfl, ?_⟩
    rw [el]
    have d0 := fmod_lo ((lawAt ns 3).fdiv 20) (m := 150) (by decide)
    have d1 := fmod_hi ((lawAt ns 3).fdiv 20) (m := 150) (by decide)
    obtain ⟨wd, hwd, hw⟩ : ∃ wd : Nat, (wd : Int) = (if ((lawAt ns 3).fdiv 20).fmod 150 > (ns.length : Int) then ((lawAt ns 3).fdiv 20).fmod 150 else (ns.length : Int)) ∧ wd ≤ 149 := by
      by_cases c : ((lawAt ns 3).fdiv 20).fmod 150 > (ns.length : Int)
      · rw [if_pos c]
        exact ⟨(((lawAt ns 3).fdiv 20).fmod 150).toNat, by omega, by omega⟩
      · rw [if_neg c]
        exact ⟨ns.length, rfl, by omega⟩
    rw [← hwd]
    refine ⟨_, rfl, a, ns, 3, rfl, s2.seq hS, _, _, rfl, rfl, nz rfl, _, _, rfl, rfl, _, rfl, ?_⟩
    have hB := brd_pos ds
    have ok0 : Ok ds := ⟨by omega, by omega⟩
    by_cases cA : ((lawAt ns 3).fmod 4) > 0
    case' pos =>
      rw [decide_eq_true cA]
      refine iteT (iteT ?_)
    case' neg =>
      rw [decide_eq_false cA]
      refine iteF ⟨_, rfl, _, _, rfl, rfl, _, rfl, ?_⟩
      by_cases cB : (wd : Int) > 1
      case' pos =>
        rw [decide_eq_true cB]
        refine iteT (iteT ?_)
      case' neg =>
        rw [decide_eq_false cB]
        refine iteF ⟨_, rfl, o, _, rfl, .inl (.inl (.inl ho2)), _, _, rfl, rfl, _, rfl, ?_⟩
        by_cases cC : ((iv ds).length : Int) > 0
        case' pos =>
          rw [decide_eq_true cC]
          refine iteT ?_
        case' neg =>
          rw [decide_eq_false cC]
          refine iteF ⟨_, rfl, o, _, rfl, .inl ⟨.inl (.inl ho2), fun r nr => q ds r _ ok0 (s2.put (s2.free nr)) upd_same⟩⟩
    all_goals
      obtain ⟨j, hj, hj2⟩ : ∃ j : Nat, (j : Int) = ((lawAt ns 3).fdiv 4).fmod (((iv ds).length : Int) + 1) ∧ j ≤ 5 := by
        have e0 := fmod_lo ((lawAt ns 3).fdiv 4) (m := ((iv ds).length : Int) + 1) (by omega)
        have e1 := fmod_hi ((lawAt ns 3).fdiv 4) (m := ((iv ds).length : Int) + 1) (by omega)
        rw [iv_len] at e0 e1 ⊢
        exact ⟨(((lawAt ns 3).fdiv 4).fmod ((ds.length : Int) + 1)).toNat, by omega, by omega⟩
      have hv : ((wd : Int) + (brd ds : Int) - 1).fdiv (brd ds : Int) = (((wd + brd ds - 1) / brd ds : Nat) : Int) := by
        rw [show (wd : Int) + (brd ds : Int) - 1 = ((wd + brd ds - 1 : Nat) : Int) by omega, div_nat]
      refine ⟨_, rfl, .inl ⟨rfl, _, .inl (.inl ho2)⟩, ?_⟩
      refine ⟨_, rfl, a, ns, 3, rfl, s2.seq hS, _, _, rfl, rfl, ⟨by decide, by decide⟩, _, rfl, o, _, rfl, .inl (.inl (.inl ho2)), _, _, rfl, rfl, _, _, rfl, rfl, (by show ((iv ds).length : Int) + 1 ≠ 0; omega), ?_⟩
      refine ⟨_, rfl, _, rfl, _, _, rfl, rfl, _, _, rfl, rfl, _, rfl, _, _, rfl, rfl, ⟨by omega, by omega⟩, ?_⟩
      refine ⟨o, iv ds, (j : Int), .int (((wd + brd ds - 1) / brd ds : Nat) : Int), rfl, ?_, ho2, ?_, by omega, by omega, ?_⟩
      · rw [hj, ← hv]
      · rw [iv_len]
        exact small1000 (by omega)
      · refine ⟨_, rfl, o, _, rfl, .inl ⟨.inl (.inl upd_same), fun r nr => ?_⟩⟩
        have s3 := s2.put (o := .lst ((iv ds).take ((j : Int)).toNat ++ [V.int (((wd + brd ds - 1) / brd ds : Nat) : Int)] ++ (iv ds).drop ((j : Int)).toNat)) no
        refine q _ r _ (ok_ins (w := wd) (j := j) h5 hbb hw) (s3.put (s3.free nr)) ?_
        show upd _ r _ r = _
        rw [upd_same, ← iv_ins]
        rfl
end
end K9

set_option Elab.async false
set_option linter.all false
set_option maxRecDepth 100000
/-! The law's look at the cells: in their order, nested, by coordinates. -/
namespace K9
open PySem PySem.Spec PyProof.Rows L2 RZ RT
/-- built-in names that the text leaves alone -/
structure Blt (mg : Str → Option Value) : Prop where
  len : mg "len" = none
  max : mg "max" = none
  range : mg "range" = none
  tuple : mg "tuple" = none
  list : mg "list" = none
  isi : mg "isinstance" = none
  int : mg "int" = none
  bool : mg "bool" = none
  zip : mg "zip" = none
  rev : mg "reversed" = none
  str : mg "str" = none
  sum : mg "sum" = none
/-- a def that is called: its promise, how its arguments bind, that it stands at its name -/
structure Fn (P : Program) (w : World) (K : PySem.W.Frag) (mg : Str → Option Value) (base : Heap) (CX : CXT) (k : Nat) (x : Str) (f : Addr) (fd : FuncData) (ps : List Str) (sp : Sp) : Prop where
  ok : FnOk P w K mg base CX k f fd ps sp
  b : Binds K fd ps []
  k : PySem.W.keepIn K (.ref f) = true
  g : mg x = some (.ref f)
/-! ### data that are compared -/
theorem can_ints : ∀ ns : List Int, PyData.canLayAll0 (ns.map PyData.int) = true
  | [] => rfl
  | n :: r => by
    show (PyData.canLay0 (.int n) && PyData.canLayAll0 (r.map PyData.int)) = true
    rw [can_ints r]
    rfl
theorem deep_ints : ∀ ns : List Int, PyData.depthAll (ns.map PyData.int) = 0
  | [] => rfl
  | n :: r => by
    show Nat.max 0 (PyData.depthAll (r.map PyData.int)) = 0
    rw [deep_ints r]
    rfl
abbrev dTup (ns : List Int) : PyData := .tuple (ns.map PyData.int)
abbrev dLst (ns : List Int) : PyData := .list (ns.map PyData.int)
theorem can_tup (ns : List Int) : (dTup ns).canLay0 = true := can_ints ns
theorem can_lst (ns : List Int) : (dLst ns).canLay0 = true := can_ints ns
theorem shaped_tup (ns : List Int) : SeqAt.shaped (dTup ns) = true := by
  refine Bool.and_eq_true_iff.mpr ⟨can_tup ns, decide_eq_true ?_⟩
  show PyData.depthAll (ns.map PyData.int) + 1 ≤ 64
  rw [deep_ints]
  decide
theorem shaped_lst (ns : List Int) : SeqAt.shaped (dLst ns) = true := by
  refine Bool.and_eq_true_iff.mpr ⟨can_lst ns, decide_eq_true ?_⟩
  show PyData.depthAll (ns.map PyData.int) + 1 ≤ 64
  rw [deep_ints]
  decide
theorem dp_ints {K : PySem.W.Frag} {H : Hp} : ∀ ns : List Int, DpAll K H (ns.map V.int) (ns.map PyData.int)
  | [] => .nil
  | n :: r => .cons (.int n) (dp_ints r)
theorem dp_tup {K : PySem.W.Frag} {H : Hp} {a : Addr} {ns : List Int} (h : Tu H a (ns.map V.int)) : Dp K H (.ref a) (dTup ns) := .tup (.inl (.inl h)) (dp_ints ns)
theorem dp_iv {K : PySem.W.Frag} {H : Hp} {a : Addr} {ds : List Nat} (h : Tu H a (iv ds)) : Dp K H (.ref a) (dTup (ds.map fun n : Nat => (n : Int))) := by
  rw [iv_int] at h
  exact dp_tup h
theorem dp_lst {K : PySem.W.Frag} {H : Hp} {a : Addr} {ns : List Int} (h : H a = some (.lst (ns.map V.int))) : Dp K H (.ref a) (dLst ns) := .lst (.inl (.inl h)) (dp_ints ns)
def spCells : Sp := fun vs H Q _ => ∃ (t a b c : Addr) (ds : List Nat) (ns : List Int), vs = [.ref t, .ref a, .ref c] ∧ Tabl H t a b ds (ns.map wrap) ∧ H c = some (.lst (ns.map V.int)) ∧ Ok ds ∧ ns.length = prod ds ∧ ∀ H', Same H H' → Q (.bl true) H'
theorem Ok.prod {ds : List Nat} (h : Ok ds) : prod ds ≤ 512 := Nat.le_trans (prod_le_brd ds) h.2
theorem len_map2 (ns : List Int) : (ns.map wrap).length = ns.length := List.length_map _
section
variable {P : Program} {w : World} {K : PySem.W.Frag} {mg : Str → Option Value} {base : Heap} {f fA fN fF fH fC : Addr} {fd fdA fdN fdF fdH fdC : FuncData} {CN : Addr}
theorem ok_cells (F : Fun K "_law_cells" "_law_cells" sCells f fd) (B : Blt mg) (GA : Fn P w K mg base CX0 3 "all_at" fA fdA ["sides"] spAllAt) (GN : Fn P w K mg base CX0 9 "nested" fN fdN ["tab"] (spNested 7))
    (GF : Fn P w K mg base CX0 8 "_law_flat" fF fdF ["thing", "sides"] (spFlat 7)) (GH : Fn P w K mg base CX0 1 "_law_held" fH fdH ["found", "due"] spHeld)
    (GC : Fn P w K mg base (L2.CX P w) 2 "cell_at" fC fdC ["tab", "at"] (spCell CN)) : FnOk P w K mg base CX0 10 f fd ["tab", "sides", "cells"] spCells := by
  refine F.ok scCells (fun vs H Q E h => ?_) (fun cdv A outer s H vs Q E hr h => ?_)
  · obtain ⟨t, a, b, c, ds, ns, rfl, _⟩ := h
    rfl
  obtain ⟨t, a, b, c, ds, ns, rfl, T, hC, ok, hl, q⟩ := h
  refine ⟨_, pss_cons (ps_if (PW.pt (pw_or (pt_not (pt_val (pe_callB call_isi (by rfl) B.isi (by decide +kernel) (pa_cons (pv 0) (pa_cons (pe_bltn (v := .ty "tuple") (u := .type "tuple") (by rfl) B.tuple (by decide +kernel) rfl) pa_nil)))))
      (pw_or (pt_cmpR op_ne (pe_callB call_len_seq (by rfl) B.len PySem.boot_len (pa_cons (pv 0) pa_nil)) pe_int (nomark _))
      (pw_or (pt_not (pt_val (pe_callB call_isi (by rfl) B.isi (by decide +kernel) (pa_cons (pe_ix ix_tup (pv 0) pe_int (fun _ _ => rfl)) (pa_cons (pe_bltn (v := .ty "tuple") (u := .type "tuple") (by rfl) B.tuple (by decide +kernel) rfl) pa_nil)))))
      (pw_or1 (pt_cmpR (op_neD hr.units) (pe_ix ix_tup (pv 0) pe_int (fun _ _ => rfl)) (pv 1) (nomark _))))))) (pss_one (ps_ret pe_bl)) pss_nil)
    (pss_cons (ps_if (PW.pt (pw_or (pt_not (pt_val (pe_callB call_isi (by rfl) B.isi (by decide +kernel) (pa_cons (pe_ix ix_tup (pv 0) pe_int (fun _ _ => rfl)) (pa_cons (pe_bltn (v := .ty "tuple") (u := .type "tuple") (by rfl) B.tuple (by decide +kernel) rfl) pa_nil)))))
      (pw_or1 (pt_cmpR op_ne (pe_callB call_len_seq (by rfl) B.len PySem.boot_len (pa_cons (pe_ix ix_tup (pv 0) pe_int (fun _ _ => rfl)) pa_nil)) (pe_callB call_len_seq (by rfl) B.len PySem.boot_len (pa_cons (pv 2) pa_nil)) (nomark _))))) (pss_one (ps_ret pe_bl)) pss_nil)
    (pss_cons (ps_set (i := 3) scCells.nd rfl (.inl rfl) (pe_call GA.ok (hr.mono (by decide)) (by rfl) GA.g GA.k GA.b .nil pass0 (pa_cons (pv 1) pa_nil)))
    (pss_cons (ps_if (PW.pt (pw_or (pt_not (pt_val (pe_callB call_isi (by rfl) B.isi (by decide +kernel) (pa_cons (pv 3) (pa_cons (pe_bltn (v := .ty "list") (u := .type "list") (by rfl) B.list (by decide +kernel) rfl) pa_nil)))))
      (pw_or1 (pt_cmpR op_ne (pe_callB call_len_seq (by rfl) B.len PySem.boot_len (pa_cons (pv 3) pa_nil)) (pe_callB call_len_seq (by rfl) B.len PySem.boot_len (pa_cons (pv 2) pa_nil)) (nomark _))))) (pss_one (ps_ret pe_bl)) pss_nil)
    (pss_cons (ps_set (i := 4) scCells.nd rfl (.inl rfl) (pe_call GF.ok (hr.mono (by decide)) (by rfl) GF.g GF.k GF.b .nil pass0 (pa_cons (pe_call GN.ok hr (by rfl) GN.g GN.k GN.b .nil pass0 (pa_cons (pv 0) pa_nil)) (pa_cons (pv 1) pa_nil))))
    (pss_cons (ps_if (PW.pt (pw_or (pt_cmpR op_isN (pv 4) pe_non (nomark _))
      (pw_or1 (pt_cmpR op_ne (pe_callB call_len_seq (by rfl) B.len PySem.boot_len (pa_cons (pv 4) pa_nil)) (pe_callB call_len_seq (by rfl) B.len PySem.boot_len (pa_cons (pv 2) pa_nil)) (nomark _))))) (pss_one (ps_ret pe_bl)) pss_nil)
    (pss_cons (ps_for PassesOwn.never rfl (pi_range1 (by rfl) B.range (pa_cons (pe_callB call_len_seq (by rfl) B.len PySem.boot_len (pa_cons (pv 2) pa_nil)) pa_nil)) (pg_name (i := 5) scCells.nd rfl (.inl rfl))
      (pss_cons (ps_if (PW.pt (pw_or (pt_not (pt_val (pe_call GH.ok (hr.mono (by decide)) (by rfl) GH.g GH.k GH.b .nil pass0 (pa_cons (pe_ix ix_tup (pe_ix ix_tup (pv 0) pe_int (fun _ _ => rfl)) (pv 5) (fun _ _ => rfl)) (pa_cons (pe_ix ix_list (pv 2) (pv 5) (fun _ _ => rfl)) pa_nil)))))
          (pw_or1 (pt_not (pt_val (pe_call GH.ok (hr.mono (by decide)) (by rfl) GH.g GH.k GH.b .nil pass0 (pa_cons (pe_ix ix_list (pv 4) (pv 5) (fun _ _ => rfl)) (pa_cons (pe_ix ix_list (pv 2) (pv 5) (fun _ _ => rfl)) pa_nil)))))))) (pss_one (ps_ret pe_bl)) pss_nil)
      (pss_cons (ps_set (i := 6) scCells.nd rfl (.inl rfl) pe_int)
      (pss_cons (ps_if (PW.pt (pw_or (pt_not (pt_val (pe_callB call_isi (by rfl) B.isi (by decide +kernel) (pa_cons (pe_ix ix_list (pv 3) (pv 5) (fun _ _ => rfl)) (pa_cons (pe_bltn (v := .ty "tuple") (u := .type "tuple") (by rfl) B.tuple (by decide +kernel) rfl) pa_nil)))))
          (pw_or1 (pt_cmpR op_ne (pe_callB call_len_seq (by rfl) B.len PySem.boot_len (pa_cons (pe_ix ix_list (pv 3) (pv 5) (fun _ _ => rfl)) pa_nil)) (pe_callB call_len_seq (by rfl) B.len PySem.boot_len (pa_cons (pv 1) pa_nil)) (nomark _))))) (pss_one (ps_ret pe_bl)) pss_nil)
      (pss_cons (ps_for PassesOwn.never rfl (pi_zipA (by rfl) B.zip (pa_cons (pe_ix ix_list (pv 3) (pv 5) (fun _ _ => rfl)) (pa_cons (pv 1) pa_nil)))
          (pg_tup rfl (pgs_cons (pg_name (i := 7) scCells.nd rfl (.inl rfl)) (pgs_cons (pg_name (i := 8) scCells.nd rfl (.inl rfl)) pgs_nil)))
        (pss_cons (ps_if (PW.pt (pw_or (pt_val (pe_callB call_isi (by rfl) B.isi (by decide +kernel) (pa_cons (pv 7) (pa_cons (pe_bltn (v := .ty "bool") (u := .type "bool") (by rfl) B.bool (by decide +kernel) rfl) pa_nil))))
          (pw_or (pt_not (pt_val (pe_callB call_isi (by rfl) B.isi (by decide +kernel) (pa_cons (pv 7) (pa_cons (pe_bltn (v := .ty "int") (u := .type "int") (by rfl) B.int (by decide +kernel) rfl) pa_nil)))))
          (pw_or (pt_cmpR op_lt (pv 7) pe_int (nomark _)) (pw_or1 (pt_cmpR op_ge (pv 7) (pv 8) (nomark _))))))) (pss_one (ps_ret pe_bl)) pss_nil)
        (pss_one (ps_set (i := 6) scCells.nd rfl (.inl rfl) (pe_op op_add (pe_op op_mul (pv 6) (pv 8)) (pv 7))))))
      (pss_one (ps_if (PW.pt (pw_or (pt_cmpR op_ne (pv 6) (pv 5) (nomark _))
          (pw_or1 (pt_not (pt_val (pe_call GH.ok (hr.mono (by decide)) (by rfl) GH.g GH.k GH.b .nil pass0 (pa_cons (pe_call GC.ok (hr.mono (by decide)) (by rfl) GC.g GC.k GC.b .nil passL (pa_cons (pv 0) (pa_cons (pe_ix ix_list (pv 3) (pv 5) (fun _ _ => rfl)) pa_nil)))
            (pa_cons (pe_ix ix_list (pv 2) (pv 5) (fun _ _ => rfl)) pa_nil)))))))) (pss_one (ps_ret pe_bl)) pss_nil)))))))
    (pss_one (ps_ret pe_bl)))))))), ?_⟩
  have lw := len_map2 ns
  have pr := ok.prod
  have tt : Tu H t [.ref a, .ref b] := T.top
  refine ⟨_, rfl, _, _, _, _, true, rfl, .ty "tuple", .base (.tup tt), kit_ty (by decide +kernel), true, rfl, ?_⟩
  refine iteF ⟨_, rfl, t, _, rfl, .inr (.inl (.inl tt)), rfl, _, rfl, ?_⟩
  refine iteF ⟨_, rfl, t, _, 0, .ref a, rfl, rfl, .inl (.inl tt), atI_nat (j := 0) rfl, _, _, _, _, true, rfl, .ty "tuple", .base (.tup T.sides), kit_ty (by decide +kernel), true, rfl, ?_⟩
  refine iteF ⟨_, rfl, t, _, 0, .ref a, rfl, rfl, .inl (.inl tt), atI_nat (j := 0) rfl, _, rfl, _, _, dp_iv T.sides, dp_iv T.sides, shaped_tup _, shaped_tup _, _, rfl, ?_⟩
  rw [SeqAt.eqv_refl _ (can_tup _)]
  refine iteF ⟨_, rfl, t, _, 1, .ref b, rfl, rfl, .inl (.inl tt), atI_nat (j := 1) rfl, _, _, _, _, true, rfl, .ty "tuple", .base (.tup T.cells), kit_ty (by decide +kernel), true, rfl, ?_⟩
  refine iteF ⟨_, rfl, t, _, 1, .ref b, rfl, rfl, .inl (.inl tt), atI_nat (j := 1) rfl, b, _, rfl, .inr (.inl (.inl T.cells)), _, rfl, c, _, rfl, .inl (.inl (.inl hC)), rfl, _, rfl, ?_⟩
  rw [List.length_map, List.length_map, List.length_map]
  refine iteNS rfl ?_
  refine ⟨_, rfl, a, ds, rfl, T.sides, ok.few, by omega, fun p H1 qs s1 np ep lq hq => ?_⟩
  refine ⟨_, rfl, _, _, _, _, true, rfl, .ty "list", .base (.lst ep), kit_ty (by decide +kernel), true, rfl, ?_⟩
  refine iteF ⟨_, rfl, p, _, rfl, .inl (.inl (.inl ep)), _, rfl, c, _, rfl, .inl (.inl (.inl (s1 _ _ hC))), rfl, _, rfl, ?_⟩
  rw [List.length_map, List.length_map, lq, hl]
  refine iteNS rfl ?_
  refine ⟨_, rfl, t, a, b, ds, ns.map wrap, rfl, T.same s1, ok.few, by omega, by have := ok.1; omega, fun v H2 as s2 na _ _ => ?_⟩
  have s12 := s1.trans s2
  refine ⟨_, rfl, v, a, ds, ns.map wrap, as, rfl, s12.tu T.sides, ok.few, na, by omega, by omega, by have := ok.1; omega, fun fl H3 s3 efl => ?_⟩
  have s13 := s12.trans s3
  refine ⟨_, rfl, rfl, _, rfl, ?_⟩
  refine iteF ⟨_, rfl, fl, _, rfl, .inl (.inl (.inl efl)), _, rfl, c, _, rfl, .inl (.inl (.inl (s13 _ _ hC))), rfl, _, rfl, ?_⟩
  rw [List.length_map, List.length_map, List.length_map]
  refine iteNS rfl ?_
  refine ⟨_, rfl, c, _, rfl, .inl (.inl (.inl (s13 _ _ hC))), _, rfl, by rw [List.length_map]; omega, by rw [List.length_map]; omega, ?_⟩
  rw [List.length_map]
  refine for_range (lo := 0) (n := (ns.length : Int).toNat) (fun i σ H' => Same H3 H' ∧ ∃ y5 y6 y7 y8 : Option V, σ = [some (.ref t), some (.ref a), some (.ref c), some (.ref p), some (.ref fl), y5, y6, y7, y8])
    ⟨Same.refl H3, none, none, none, none, rfl⟩ (fun i σ H' hi h => ?_) (fun σ H' h => ?_)
  · obtain ⟨sm, y5, y6, y7, y8, rfl⟩ := h
    have hi' : i < ns.length := by omega
    have hip : i < prod ds := by omega
    have s03 := s13.trans sm
    have gn : ns[i]? = some ns[i] := List.getElem?_eq_getElem hi'
    have gw : (ns.map wrap)[i]? = some (wrap ns[i]) := by
      rw [List.getElem?_map, gn]
      rfl
    have gq : qs[i]? = some qs[i] := List.getElem?_eq_getElem (by omega)
    have gp : (qs.map V.ref)[i]? = some (.ref qs[i]) := by
      rw [List.getElem?_map, gq]
      rfl
    have ez : (0 : Int) + (i : Int) = (i : Int) := Int.zero_add _
    have ic : atI (ns.map V.int) (0 + (i : Int)) = some (.int ns[i]) := by rw [ez]; exact atI_nat (vi_at gn)
    have iw : atI ((ns.map wrap).map V.int) (0 + (i : Int)) = some (.int (wrap ns[i])) := by rw [ez]; exact atI_nat (vi_at gw)
    have ip : atI (qs.map V.ref) (0 + (i : Int)) = some (.ref qs[i]) := by rw [ez]; exact atI_nat gp
    have ic2 : atI (ns.map V.int) (i : Int) = some (.int ns[i]) := atI_nat (vi_at gn)
    have ip2 : atI (qs.map V.ref) (i : Int) = some (.ref qs[i]) := atI_nat gp
    have hT := s03.tu tt
    have hB := s03.tu T.cells
    have hC' := s03 _ _ hC
    have hP := (s2.trans (s3.trans sm)) _ _ ep
    have hF := sm _ _ efl
    have hQ : Tu H' qs[i] (iv (coords ds i)) := (s2.trans (s3.trans sm)).tu (hq i _ gq)
    have hS := s03.tu T.sides
    refine ⟨_, rfl, t, _, 1, .ref b, rfl, rfl, .inl (.inl hT), atI_nat (j := 1) rfl, _, rfl, b, _, _, _, rfl, rfl, .inl (.inl hB), iw, _, rfl, _, rfl, c, _, _, _, rfl, rfl, .inl (.inl hC'), ic, ns[i], rfl, true, rfl, ?_⟩
    refine iteF ⟨_, rfl, _, rfl, fl, _, _, _, rfl, rfl, .inl (.inl hF), iw, _, rfl, _, rfl, c, _, _, _, rfl, rfl, .inl (.inl hC'), ic, ns[i], rfl, true, rfl, ?_⟩
    refine iteF ?_
    refine ⟨_, rfl, _, rfl, p, _, _, _, rfl, rfl, .inl (.inl hP), ip, _, _, _, _, true, rfl, .ty "tuple", .base (.tup hQ), kit_ty (by decide +kernel), true, rfl, ?_⟩
    refine iteF ⟨_, rfl, _, rfl, p, _, _, _, rfl, rfl, .inl (.inl hP), ip, qs[i], _, rfl, .inr (.inl (.inl hQ)), _, rfl, a, _, rfl, .inr (.inl (.inl hS)), rfl, _, rfl, ?_⟩
    rw [iv_len, iv_len, coords_len]
    refine iteNS rfl ?_
    refine ⟨_, rfl, _, rfl, p, _, _, _, rfl, rfl, .inl (.inl hP), ip, _, rfl, qs[i], a, _, _, rfl, .inr ⟨.inl (.inl hQ), .inl (.inl hS), ?_⟩⟩
    refine for_zipT (xs := iv (coords ds i)) (ys := iv ds) (by rw [iv_len, iv_len, coords_len]) (fun j σ H2 => Same H' H2 ∧ ∃ y7 y8 : Option V, σ = [some (.ref t), some (.ref a), some (.ref c), some (.ref p), some (.ref fl), some (.int (0 + (i : Int))), some (.int (tot 0 (ds.take j) ((coords ds i).take j) : Nat)), y7, y8])
      ⟨Same.refl H', _, _, rfl⟩ (fun j σ H2 h => ⟨.inl (.inl (h.1.tu hQ)), .inl (.inl (h.1.tu hS))⟩) (fun j x y T' σ H2 hx hy h nT => ?_) (fun σ H2 h => ?_)
    · obtain ⟨sm2, z7, z8, rfl⟩ := h
      obtain ⟨o, ho, rfl⟩ := iv_get hx
      obtain ⟨d, hd, rfl⟩ := iv_get hy
      have hod := within_get (within_coords hip) hd ho
      have hb := ok.few.2 d (List.mem_of_getElem? hd)
      refine ⟨T', [.int (o : Int), .int (d : Int)], rfl, .inl (.inl upd_same), rfl, .int (o : Int), [.int (d : Int)], rfl, .int (d : Int), [], rfl, rfl, ?_⟩
      refine ⟨_, rfl, _, _, _, _, false, rfl, .ty "bool", .base (.int _), kit_ty (by decide +kernel), false, rfl, ?_⟩
      refine iteF ⟨_, rfl, _, _, _, _, true, rfl, .ty "int", .base (.int _), kit_ty (by decide +kernel), true, rfl, ?_⟩
      refine iteF ⟨_, rfl, _, _, rfl, rfl, _, rfl, ?_⟩
      rw [decide_eq_false (by omega : ¬ (o : Int) < 0)]
      refine iteF ⟨_, rfl, _, rfl, _, _, rfl, rfl, _, rfl, ?_⟩
      rw [decide_eq_false (by omega : ¬ (o : Int) ≥ (d : Int))]
      refine iteF ⟨_, rfl, _, rfl, _, _, rfl, rfl, .inr ⟨by omega, by omega⟩, _, rfl, _, _, rfl, rfl, sm2.trans (same_laid nT _), some (.int (o : Int)), some (.int (d : Int)), ?_⟩
      rw [tot_take hd ho, Int.natCast_add, Int.natCast_mul]
      rfl
    · obtain ⟨sm2, z7, z8, rfl⟩ := h
      rw [iv_len, coords_len, List.take_length, List.take_of_length_le (by rw [coords_len]; exact Nat.le_refl _), tot_coords hip]
      refine ⟨_, rfl, _, rfl, rfl, _, rfl, ?_⟩
      rw [ez]
      refine iteNS rfl ⟨_, rfl, _, rfl, _, rfl, p, _, _, _, rfl, rfl, .inl (.inl (sm2 _ _ hP)), ip2, ?_⟩
      refine ⟨t, a, b, qs[i], ds, ns.map wrap, (coords ds i).map (fun n : Nat => (n : Int)), rfl, T.same (s03.trans sm2), by rw [← iv_int]; exact sm2.tu hQ, ok.few, .inr ⟨i, wrap ns[i], plc_coords hip, gw, fun H5 s5 => ?_⟩⟩
      have s25 := sm2.trans s5
      refine ⟨_, rfl, _, rfl, c, _, _, _, rfl, rfl, .inl (.inl (s25 _ _ hC')), ic2, ns[i], rfl, true, rfl, ?_⟩
      exact iteF ⟨sm.trans s25, _, _, _, _, rfl⟩
  · obtain ⟨sm, _⟩ := h
    exact q H' (s13.trans sm)
end
end K9

set_option Elab.async false
set_option linter.all false
set_option maxRecDepth 100000
/-! The law's strange coordinates: all refused. -/
namespace K9
open PySem PySem.Spec PyProof.Rows L2 RZ RT
def spStrange : Sp := fun vs H Q _ => ∃ (t a b : Addr) (ds : List Nat) (cs : List Int) (drawn : Int), vs = [.ref t, .ref a, .int drawn] ∧ Tabl H t a b ds cs ∧ Ok ds ∧ ∀ H', Same H H' → Q (.bl true) H'
/-- coordinates at q that have no cell -/
def Bad (ds : List Nat) (H : Hp) (q : Addr) : Prop := ∃ os : List Int, Tu H q (os.map V.int) ∧ plc 0 ds os = none
theorem Bad.same {ds : List Nat} {H H' : Hp} {q : Addr} (h : Bad ds H q) (s : Same H H') : Bad ds H' q := by
  obtain ⟨os, h1, h2⟩ := h
  exact ⟨os, s.tu h1, h2⟩
theorem mid_get {α : Type} {l r : List α} {x : α} {i : Nat} (h : l.length = i) : (l ++ [x] ++ r)[i]? = some x := by
  rw [List.getElem?_append_left (by rw [List.length_append, List.length_singleton]; omega), List.getElem?_append_right (by omega), h, Nat.sub_self]
  rfl
theorem cut_to0 (xs : List V) (i : Nat) : cutV xs none (some (0 + (i : Int))) = xs.take i := by rw [Int.zero_add, cutV_to]
theorem cut_from1 (xs : List V) (i : Nat) : cutV xs (some (0 + (i : Int) + 1)) none = xs.drop (i + 1) := by
  rw [show (0 : Int) + (i : Int) + 1 = ((i + 1 : Nat) : Int) by omega, cutV_from]
theorem cut_one (xs : List V) : cutV xs (some 1) none = xs.drop 1 := cutV_from xs 1
theorem flat_rep (m : Nat) : (List.replicate m [V.int 0]).flatten = (List.replicate m (0 : Int)).map V.int := by simp
section
variable {P : Program} {w : World} {K : PySem.W.Frag} {mg : Str → Option Value} {base : Heap} {f fN : Addr} {fd fdN : FuncData}
theorem ok_strange (F : Fun K "_law_strange" "_law_strange" sStrange f fd) (B : Blt mg) (GN : Fn P w K mg base CX0 3 "_law_no_cell" fN fdN ["tab", "at"] spNoCell) :
    FnOk P w K mg base CX0 4 f fd ["tab", "sides", "drawn"] spStrange := by
  refine F.ok scStrange (fun vs H Q E h => ?_) (fun cdv A outer s H vs Q E hr h => ?_)
  · obtain ⟨t, a, b, ds, cs, drawn, rfl, _⟩ := h
    rfl
  obtain ⟨t, a, b, ds, cs, drawn, rfl, T, ok, q⟩ := h
  refine ⟨_, pss_cons (ps_set (i := 3) scStrange.nd rfl (.inl rfl) (pe_lst (pa_cons (pe_op op_catA (pv 1) (pe_tup (pa_cons pe_int pa_nil))) (pa_cons (pv 1) pa_nil))))
    (C8.pss_cut (ps_if (pt_cmpR op_eq (pe_callB call_len_seq (by rfl) B.len PySem.boot_len (pa_cons (pv 1) pa_nil)) pe_int (nomark _)) (pss_one (ps_set (i := 3) scStrange.nd rfl (.inl rfl) (pe_lst (pa_cons (pe_tup (pa_cons pe_int pa_nil)) pa_nil)))) pss_nil)
    (pss_cons (ps_for PassesOwn.never rfl (pi_range1 (by rfl) B.range (pa_cons (pe_callB call_len_seq (by rfl) B.len PySem.boot_len (pa_cons (pv 1) pa_nil)) pa_nil)) (pg_name (i := 4) scStrange.nd rfl (.inl rfl))
      (pss_cons (ps_set (i := 5) scStrange.nd rfl (.inl rfl) (pe_callTy call_tuple_of (by rfl) B.tuple (by decide +kernel) (pa_cons
        (pe_lc (own := [("j", 6)]) (g := gName 6) (tt := tYes) rfl scStrange.nd (pi_range1 (by rfl) B.range (pa_cons (pe_callB call_len_seq (by rfl) B.len PySem.boot_len (pa_cons (pv 1) pa_nil)) pa_nil)) (blkOk_by (N := ["tab", "sides", "drawn", "asked", "k", "at", "j", "side"]) (sc := defScope sStrange) (by decide +kernel)) (fun _ _ _ _ _ => pg_name (i := 6) scStrange.nd rfl (Or.inl rfl)) (fun _ _ _ _ _ => pts_nil)
          (fun _ _ _ _ _ => pe_op op_modN (pe_op op_fdivN (pv 2) (pe_op op_add (pv 6) pe_int)) (pe_callB (call_max2 rfl) (by rfl) B.max (by decide +kernel) (pa_cons pe_int (pa_cons (pe_ix (show IxR _ (rIxT K) from ix_tup) (pv 1) (pv 6) (fun _ _ => rfl)) pa_nil))))) pa_nil)))
      (pss_cons (ps_set (i := 3) scStrange.nd rfl (.inl rfl) (pe_op op_cat (pv 3) (pe_lst
        (pa_cons (pe_op op_catA (pv 5) (pe_tup (pa_cons pe_int pa_nil)))
        (pa_cons (pe_slice sl_tupA (pv 5) (po_some pe_int) po_none)
        (pa_cons (pe_op op_catA (pe_op op_catA (pe_slice sl_tupA (pv 5) po_none (po_some (pv 4))) (pe_tup (pa_cons (pe_ix ix_tup (pv 1) (pv 4) (fun _ _ => rfl)) pa_nil))) (pe_slice sl_tupA (pv 5) (po_some (pe_op op_add (pv 4) pe_int)) po_none))
        (pa_cons (pe_op op_catA (pe_op op_catA (pe_slice sl_tupA (pv 5) po_none (po_some (pv 4))) (pe_tup (pa_cons (pe_un un_neg pe_int) pa_nil))) (pe_slice sl_tupA (pv 5) (po_some (pe_op op_add (pv 4) pe_int)) po_none)) pa_nil)))))))
      (pss_one (ps_expr (pe_bm PySem.F.plainAttrs_list PySem.F.slot_list_append PySem.F.type_list_append mt_append (pv 3) (pa_cons
        (pe_op op_catA (pe_op op_catA (pe_callTy call_tuple_of (by rfl) B.tuple (by decide +kernel) (pa_cons
            (pe_lc (own := [("side", 7)]) (g := gName 7) (tt := tYes) rfl scStrange.nd (pi_tup (pe_slice sl_tupA (pv 1) po_none (po_some (pv 4)))) (blkOk_by (N := ["tab", "sides", "drawn", "asked", "k", "at", "j", "side"]) (sc := defScope sStrange) (by decide +kernel)) (fun _ _ _ _ _ => pg_name (i := 7) scStrange.nd rfl (Or.inl rfl)) (fun _ _ _ _ _ => pts_nil)
              (fun _ _ _ _ _ => pe_op op_sub (pv 7) pe_int)) pa_nil))
          (pe_tup (pa_cons (pe_op op_add (pe_ix ix_tup (pv 1) (pv 4) (fun _ _ => rfl)) (pe_op op_modN (pv 2) pe_int)) pa_nil)))
          (pe_op op_repS (pe_tup (pa_cons pe_int pa_nil)) (pe_op op_sub (pe_op op_sub (pe_callB call_len_seq (by rfl) B.len PySem.boot_len (pa_cons (pv 1) pa_nil)) pe_int) (pv 4)))) pa_nil)))))))
    (pss_cons (ps_for PassesOwn.never rfl (pi_list (pv 3)) (pg_name (i := 5) scStrange.nd rfl (.inl rfl))
      (pss_one (ps_if (pt_not (pt_val (pe_call GN.ok hr (by rfl) GN.g GN.k GN.b .nil pass0 (pa_cons (pv 0) (pa_cons (pv 5) pa_nil))))) (pss_one (ps_ret pe_bl)) pss_nil)))
    (pss_one (ps_ret pe_bl))))), ?_⟩
  have n6 := ok.1
  have z1 : (1 : Nat) ≤ sizeLine := by decide
  have z100 : 100 < sizeLine := by decide
  -- the first list
  refine ⟨_, rfl, z1, fun p0 np0 => ?_⟩
  have s0 := same_laid np0 (.tup [V.int 0])
  refine catS (s0.tu T.sides) upd_same (by rw [iv_len]; show ds.length + 1 ≤ sizeLine; omega) fun c0 H1 s1 e1 => ?_
  have s01 := s0.trans s1
  refine ⟨_, rfl, (by show 2 ≤ sizeLine; decide), fun o no => ?_⟩
  have s02 := s01.put (o := .lst [V.ref c0, V.ref a]) (s01.free no)
  have sL := same_laid no (.lst [V.ref c0, V.ref a])
  refine ⟨fun σ H' => Same H H' ∧ ∃ (o : Addr) (qs : List Addr), σ = [some (.ref t), some (.ref a), some (.int drawn), some (.ref o), none, none, none, none] ∧ H' o = some (.lst (qs.map V.ref)) ∧ qs.length ≤ 2 ∧ ∀ q ∈ qs, Bad ds H' q, ?_, fun σ H' h => ?_⟩
  · refine ⟨_, rfl, a, _, rfl, .inr (.inl (.inl (s02.tu T.sides))), rfl, _, rfl, ?_⟩
    rw [iv_len]
    cases ds with
    | nil =>
      refine iteT ⟨z1, fun p1 np1 => ⟨z1, fun o2 no2 => ?_⟩⟩
      have s3 := s02.put (o := .tup [V.int 0]) (s02.free np1)
      refine ⟨s3.put (s3.free no2), o2, [p1], rfl, upd_same, (by show 1 ≤ 2; decide), fun x hx => ?_⟩
      rcases List.mem_singleton.mp hx with rfl
      exact ⟨[0], (same_laid no2 _).tu upd_same, rfl⟩
    | cons d r =>
      have hne : decide (V.int (((d :: r).length : Nat) : Int) = V.int 0) = false := by
        refine decide_eq_false fun z => ?_
        have := V.int.inj z
        rw [List.length_cons] at this
        omega
      rw [hne]
      refine iteF ⟨s02, o, [c0, a], rfl, upd_same, Nat.le_refl 2, fun x hx => ?_⟩
      rcases List.mem_cons.mp hx with rfl | hx
      · refine ⟨((d :: r).map fun n : Nat => (n : Int)) ++ [0], ?_, plc_len ?_⟩
        · rw [List.map_append, ← iv_int]
          exact sL.tu e1
        · rw [List.length_append, List.length_map]
          show (d :: r).length + 1 ≠ _
          omega
      · rcases List.mem_singleton.mp hx with rfl
        refine ⟨(d :: r).map fun n : Nat => (n : Int), ?_, plc_bad (k := 0) (s := d) (o := (d : Int)) rfl rfl (.inr (Int.le_refl _))⟩
        rw [← iv_int]
        exact s02.tu T.sides
  · obtain ⟨sm, o, qs, rfl, ho, hlen, hbad⟩ := h
    refine ⟨_, rfl, a, _, rfl, .inr (.inl (.inl (sm.tu T.sides))), _, rfl, by rw [iv_len]; omega, by rw [iv_len]; omega, ?_⟩
    rw [iv_len]
    refine for_range (lo := 0) (n := (ds.length : Int).toNat) (fun i σ H' => Same H H' ∧ ∃ (o : Addr) (qs : List Addr) (y4 y5 : Option V), σ = [some (.ref t), some (.ref a), some (.int drawn), some (.ref o), y4, y5, none, none] ∧ H' o = some (.lst (qs.map V.ref)) ∧ qs.length ≤ 2 + 5 * i ∧ ∀ q ∈ qs, Bad ds H' q)
      ⟨sm, o, qs, none, none, rfl, ho, hlen, hbad⟩ (fun i σ H' hi h => ?_) (fun σ H' h => ?_)
    · clear hbad hlen ho qs o sm
      obtain ⟨sm, o, qs, y4, y5, rfl, ho, hlen, hbad⟩ := h
      have hi' : i < ds.length := by omega
      have gd : ds[i]? = some ds[i] := List.getElem?_eq_getElem hi'
      have ia : ∀ j : Nat, j < ds.length → atI (iv ds) (0 + (j : Int)) = some (.int ((ds.getD j 0 : Nat) : Int)) := fun j hj => by
        rw [Int.zero_add]
        refine atI_nat (iv_at ?_)
        rw [List.getD_eq_getElem?_getD, List.getElem?_eq_getElem hj]
        rfl
      refine ⟨_, rfl, a, _, rfl, .inr (.inl (.inl (sm.tu T.sides))), _, rfl, by rw [iv_len]; omega, by rw [iv_len]; omega, fun D nD => ?_⟩
      rw [iv_len]
      have nDH := sm.free nD
      refine lc_range (lo := 0) (n := (ds.length : Int).toNat) (fun j H2 => Same H' H2 ∧ ∃ os : List Int, H2 D = some (.lst (os.map V.int)) ∧ os.length = j) ⟨same_laid nD _, [], upd_same, rfl⟩ (fun j H2 hj h => ?_) (fun H2 h => ?_)
      · obtain ⟨s2, os, eD, lo⟩ := h
        have hj' : j < ds.length := by omega
        refine ⟨rfl, _, rfl, _, rfl, _, _, rfl, rfl, _, _, rfl, rfl, ⟨by omega, by omega⟩, _, rfl, _, rfl, a, _, _, _, rfl, rfl, .inl (.inl ((sm.trans s2).tu T.sides)), ia j hj', _, _, rfl, _, _, rfl, rfl, ?_, _, eD, ?_, s2.put nD, os ++ [(drawn.fdiv (0 + (j : Int) + 1)).fmod (if ((ds.getD j 0 : Nat) : Int) > 1 then ((ds.getD j 0 : Nat) : Int) else 1)], ?_, ?_⟩
        · show (if ((ds.getD j 0 : Nat) : Int) > 1 then ((ds.getD j 0 : Nat) : Int) else 1) ≠ 0
          split <;> omega
        · rw [List.length_map, lo]
          omega
        · rw [upd_same, List.map_append]
          rfl
        · rw [List.length_append, lo]
          rfl
      · obtain ⟨s2, os, eD, lo⟩ := h
        have lo : os.length = ds.length := by omega
        refine ⟨D, _, rfl, .inl ⟨.inl (.inl eD), fun l nl => ?_⟩⟩
        have s3 : Same H2 (upd H2 l (.tup (os.map V.int))) := same_laid nl _
        have eL : Tu (upd H2 l (.tup (os.map V.int))) l (os.map V.int) := upd_same
        generalize upd H2 l (.tup (os.map V.int)) = H3 at s3 eL ⊢
        have s13 := s2.trans s3
        -- the four
        refine ⟨_, rfl, _, rfl, z1, fun p1 np1 => ?_⟩
        have t1 := same_laid np1 (.tup [V.int 0])
        refine catS (t1.tu eL) upd_same (by rw [List.length_map, lo]; show ds.length + 1 ≤ sizeLine; omega) fun c1 H4 s4 e4 => ?_
        have u4 := t1.trans s4
        refine ⟨_, rfl, 1, rfl, ?_⟩
        delta tNoPart
        refine cutS_ (u4.tu eL) fun c2 H5 s5 e5 => ?_
        have u5 := u4.trans s5
        refine ⟨_, rfl, _, rfl, _, rfl, ?_⟩
        refine cutS_ (u5.tu eL) fun p2 H6 s6 e6 => ?_
        have u6 := u5.trans s6
        refine ⟨_, rfl, _, rfl, a, _, _, _, rfl, rfl, .inl (.inl ((sm.trans (s13.trans u6)).tu T.sides)), ia i hi', z1, fun p3 np3 => ?_⟩
        have t7 := same_laid np3 (.tup [V.int ((ds.getD i 0 : Nat) : Int)])
        rw [cut_to0] at e6
        refine catS (t7.tu e6) upd_same (by rw [List.length_take, List.length_map, lo]; show min i ds.length + 1 ≤ sizeLine; omega) fun p4 H7 s7 e7 => ?_
        have u7 := u6.trans (t7.trans s7)
        refine ⟨_, rfl, _, rfl, _, _, rfl, rfl, _, rfl, ?_⟩
        refine cutS_ (u7.tu eL) fun p5 H8 s8 e8 => ?_
        have u8 := u7.trans s8
        rw [cut_from1] at e8
        refine catS (s8.tu e7) e8 (by rw [List.length_append, List.length_take, List.length_drop, List.length_map, lo]; show min i ds.length + 1 + (ds.length - (i + 1)) ≤ sizeLine; omega) fun c3 H9 s9 e9 => ?_
        have u9 := u8.trans s9
        refine ⟨_, rfl, _, rfl, _, rfl, ?_⟩
        refine cutS_ (u9.tu eL) fun p6 H10 s10 e10 => ?_
        have u10 := u9.trans s10
        refine ⟨_, rfl, z1, fun p7 np7 => ?_⟩
        have t11 := same_laid np7 (.tup [V.int (-1)])
        rw [cut_to0] at e10
        refine catS (t11.tu e10) upd_same (by rw [List.length_take, List.length_map, lo]; show min i ds.length + 1 ≤ sizeLine; omega) fun p8 H11 s11 e11 => ?_
        have u11 := u10.trans (t11.trans s11)
        refine ⟨_, rfl, _, rfl, _, _, rfl, rfl, _, rfl, ?_⟩
        refine cutS_ (u11.tu eL) fun p9 H12 s12 e12 => ?_
        have u12 := u11.trans s12
        rw [cut_from1] at e12
        refine catS (s12.tu e11) e12 (by rw [List.length_append, List.length_take, List.length_drop, List.length_map, lo]; show min i ds.length + 1 + (ds.length - (i + 1)) ≤ sizeLine; omega) fun c4 H13 s13' e13 => ?_
        have u13 := u12.trans s13'
        refine ⟨by show 4 ≤ sizeLine; decide, fun L nL => ?_⟩
        have tL := same_laid nL (.lst [V.ref c1, V.ref c2, V.ref c3, V.ref c4])
        have uL := u13.trans tL
        refine ⟨o, L, _, _, rfl, rfl, (s13.trans uL) _ _ ho, upd_same, by rw [List.length_map]; show qs.length + 4 ≤ sizeLine; omega, fun p np => ?_⟩
        have s14 : Same (upd H13 L (.lst [V.ref c1, V.ref c2, V.ref c3, V.ref c4])) (upd (upd H13 L (.lst [V.ref c1, V.ref c2, V.ref c3, V.ref c4])) p (.lst (qs.map V.ref ++ [V.ref c1, V.ref c2, V.ref c3, V.ref c4]))) := same_laid np _
        have eP : (upd (upd H13 L (.lst [V.ref c1, V.ref c2, V.ref c3, V.ref c4])) p (.lst (qs.map V.ref ++ [V.ref c1, V.ref c2, V.ref c3, V.ref c4]))) p = some (.lst (qs.map V.ref ++ [V.ref c1, V.ref c2, V.ref c3, V.ref c4])) := upd_same
        have npH : H p = none := (sm.trans (s13.trans uL)).free np
        generalize (upd (upd H13 L (.lst [V.ref c1, V.ref c2, V.ref c3, V.ref c4])) p (.lst (qs.map V.ref ++ [V.ref c1, V.ref c2, V.ref c3, V.ref c4]))) = H14 at s14 eP ⊢
        have v14 : Same H13 H14 := tL.trans s14
        have w14 : Same H' H14 := s13.trans (u13.trans v14)
        have b1 : Bad ds H14 c1 := ⟨os ++ [0], by rw [List.map_append]; exact ((s5.trans (s6.trans (t7.trans (s7.trans (s8.trans (s9.trans (s10.trans (t11.trans (s11.trans (s12.trans (s13'.trans v14))))))))))).tu e4), plc_len (by rw [List.length_append, lo]; show ds.length + 1 ≠ _; omega)⟩
        have b2 : Bad ds H14 c2 := ⟨os.drop 1, by
          rw [cut_one] at e5
          rw [List.map_drop]
          exact (s6.trans (t7.trans (s7.trans (s8.trans (s9.trans (s10.trans (t11.trans (s11.trans (s12.trans (s13'.trans v14)))))))))).tu e5, plc_len (by rw [List.length_drop, lo]; omega)⟩
        have lt : (os.take i).length = i := by rw [List.length_take]; omega
        have b3 : Bad ds H14 c3 := ⟨os.take i ++ [((ds.getD i 0 : Nat) : Int)] ++ os.drop (i + 1), by
          rw [List.map_append, List.map_append, List.map_take, List.map_drop]
          exact (s10.trans (t11.trans (s11.trans (s12.trans (s13'.trans v14))))).tu e9, plc_bad (k := i) gd (mid_get lt) (.inr (by rw [List.getD_eq_getElem?_getD, gd]; exact Int.le_refl _))⟩
        have b4 : Bad ds H14 c4 := ⟨os.take i ++ [-1] ++ os.drop (i + 1), by
          rw [List.map_append, List.map_append, List.map_take, List.map_drop]
          exact v14.tu e13, plc_bad (k := i) gd (mid_get lt) (.inl (by decide))⟩
        -- the fifth
        refine ⟨_, rfl, .inl ⟨rfl, _, .inl (.inl eP)⟩, ?_⟩
        refine ⟨_, rfl, _, rfl, _, rfl, ?_⟩
        refine cutS_ ((sm.trans w14).tu T.sides) fun g1 H15 s15 e15 => ?_
        rw [cut_to0] at e15
        refine ⟨g1, rfl, ⟨_, .inl (.inl e15)⟩, fun D2 nD2 => ?_⟩
        refine lc_tup (K := K) (a := g1) (xs := (iv ds).take i) (fun j H2 => Same H15 H2 ∧ ∃ os : List Int, H2 D2 = some (.lst (os.map V.int)) ∧ os.length = j) ⟨same_laid nD2 _, [], upd_same, rfl⟩ (fun j H2 _ h => .inl (.inl (h.1.tu e15))) (fun j x H2 hx h => ?_) (fun H2 h => ?_)
        · obtain ⟨s2', os2, eD2, lo2⟩ := h
          have hj : j < ((iv ds).take i).length := (List.getElem?_eq_some_iff.mp hx).1
          rw [List.length_take, iv_len] at hj
          rw [List.getElem?_take_of_lt (by omega)] at hx
          obtain ⟨d, hd, rfl⟩ := iv_get hx
          refine ⟨rfl, _, rfl, _, _, rfl, rfl, _, eD2, ?_, s2'.put nD2, os2 ++ [(d : Int) - 1], ?_, ?_⟩
          · rw [List.length_map, lo2]
            omega
          · rw [upd_same, List.map_append]
            rfl
          · rw [List.length_append, lo2]
            rfl
        · obtain ⟨s16, os2, eD2, lo2⟩ := h
          rw [List.length_take, iv_len] at lo2
          have lo2 : os2.length = i := by omega
          refine ⟨D2, _, rfl, .inl ⟨.inl (.inl eD2), fun g2 ng2 => ?_⟩⟩
          have t16 : Same H2 (upd H2 g2 (.tup (os2.map V.int))) := same_laid ng2 _
          have e16 : Tu (upd H2 g2 (.tup (os2.map V.int))) g2 (os2.map V.int) := upd_same
          generalize upd H2 g2 (.tup (os2.map V.int)) = H16 at t16 e16 ⊢
          have x16 := s15.trans (s16.trans t16)
          refine ⟨_, rfl, _, rfl, a, _, _, _, rfl, rfl, .inl (.inl ((sm.trans (w14.trans x16)).tu T.sides)), ia i hi', _, rfl, _, _, rfl, rfl, nz rfl, _, _, rfl, rfl, z1, fun g3 ng3 => ?_⟩
          have t17 := same_laid ng3 (.tup [V.int (((ds.getD i 0 : Nat) : Int) + drawn.fmod 5)])
          refine catS (t17.tu e16) upd_same (by rw [List.length_map, lo2]; show i + 1 ≤ sizeLine; omega) fun g4 H17 s17 e17 => ?_
          have x17 := x16.trans (t17.trans s17)
          refine ⟨z1, fun g5 ng5 => ?_⟩
          have t18 := same_laid ng5 (.tup [V.int 0])
          have x18 := x17.trans t18
          refine ⟨_, rfl, a, _, rfl, .inr (.inl (.inl ((sm.trans (w14.trans x18)).tu T.sides))), _, _, rfl, rfl, _, rfl, _, _, rfl, rfl, ?_⟩
          rw [iv_len]
          refine ⟨g5, _, _, rfl, rfl, upd_same, List.cons_ne_nil _ _, by omega, by omega, by decide, fun g6 H18 s18 e18 => ?_⟩
          rw [flat_rep] at e18
          have x19 := x18.trans s18
          refine catS ((t18.trans s18).tu e17) e18 (by rw [List.length_append, List.length_map, lo2, List.length_map, List.length_replicate]; show i + 1 + _ ≤ sizeLine; omega) fun c5 H19 s19 e19 => ?_
          have x20 := x19.trans s19
          have w20 := w14.trans x20
          have d5 := fmod_lo drawn (m := 5) (by decide)
          have b5 : Bad ds H19 c5 := ⟨os2 ++ [((ds.getD i 0 : Nat) : Int) + drawn.fmod 5] ++ List.replicate (((ds.length : Nat) : Int) - 1 - (0 + (i : Int))).toNat 0, by
            rw [List.map_append, List.map_append]
            exact e19, plc_bad (k := i) gd (mid_get lo2) (.inr (by rw [List.getD_eq_getElem?_getD, gd]; show (ds[i] : Int) + _ ≥ _; omega))⟩
          refine ⟨p, _, _, rfl, rfl, x20 _ _ eP, ?_, (sm.trans w20).put npH, p, qs ++ [c1, c2, c3, c4] ++ [c5], some (.int (0 + (i : Int))), some (.ref l), rfl, ?_, ?_, fun x hx => ?_⟩
          · rw [List.length_append, List.length_map]
            show qs.length + 4 < sizeLine
            omega
          · rw [upd_same, List.map_append, List.map_append]
            rfl
          · rw [List.length_append, List.length_append]
            show qs.length + 4 + 1 ≤ _
            omega
          · have keep : ∀ y, Bad ds H19 y → Bad ds (upd H19 p (.lst (qs.map V.ref ++ [V.ref c1, V.ref c2, V.ref c3, V.ref c4] ++ [V.ref c5]))) y := fun y ⟨os', h1, h2⟩ => by
              refine ⟨os', ?_, h2⟩
              show upd _ p _ y = _
              rw [upd_ne (ne_of h1 (x20 _ _ eP) (by intro z; cases z))]
              exact h1
            refine keep x ?_
            rcases List.mem_append.mp hx with hx | hx
            · rcases List.mem_append.mp hx with hx | hx
              · exact (hbad x hx).same w20
              · rcases List.mem_cons.mp hx with rfl | hx
                · exact b1.same x20
                rcases List.mem_cons.mp hx with rfl | hx
                · exact b2.same x20
                rcases List.mem_cons.mp hx with rfl | hx
                · exact b3.same x20
                rcases List.mem_singleton.mp hx with rfl
                exact b4.same x20
            · rcases List.mem_singleton.mp hx with rfl
              exact b5
    · clear hbad hlen ho qs o sm
      obtain ⟨sm, o, qs, y4, y5, rfl, ho, hlen, hbad⟩ := h
      refine ⟨_, rfl, o, rfl, ⟨_, .inl (.inl ho)⟩, ?_⟩
      refine for_list (K := K) (a := o) (xs := qs.map V.ref) (fun i σ H2 => Same H' H2 ∧ ∃ y5 : Option V, σ = [some (.ref t), some (.ref a), some (.int drawn), some (.ref o), y4, y5, none, none])
        ⟨Same.refl H', _, rfl⟩ (fun i σ H2 _ h => .inl (.inl (h.1 _ _ ho))) (fun i x σ H2 hx h => ?_) (fun σ H2 h => ?_)
      · obtain ⟨s2, y5, rfl⟩ := h
        obtain ⟨q0, hq0, rfl⟩ : ∃ q0, qs[i]? = some q0 ∧ x = .ref q0 := by
          rw [List.getElem?_map] at hx
          cases e : qs[i]? with
          | none => rw [e] at hx; cases hx
          | some q0 => rw [e] at hx; exact ⟨q0, rfl, (Option.some.inj hx).symm⟩
        obtain ⟨os, h1, h2⟩ := hbad q0 (List.mem_of_getElem? hq0)
        refine ⟨_, rfl, _, rfl, t, a, b, q0, ds, cs, os, rfl, T.same (sm.trans s2), s2.tu h1, ok.few, h2, fun H3 s3 => ⟨true, rfl, ?_⟩⟩
        exact iteF ⟨s2.trans s3, _, rfl⟩
      · exact q H2 (sm.trans h.1)
end
end K9

set_option Elab.async false
set_option linter.all false
set_option maxRecDepth 100000
/-! Nested lists are one's own: one told list is changed, the next telling is new. -/
namespace K9
open PySem PySem.Spec PyProof.Rows L2 RZ RT
theorem sum_rep (x : Int) : ∀ m : Nat, (List.replicate m x).sum = (m : Int) * x
  | 0 => by simp
  | m + 1 => by
    rw [List.replicate_succ, List.sum_cons, sum_rep x m, Int.natCast_add, Int.add_mul]
    omega
theorem CTr.up : ∀ {k : Nat} {H : Hp} {v : V} {n : Int}, CTr H k v n → CTr H (k + 1) v n
  | 0, _, _, _, h => h.elim
  | k + 1, H, v, n, h => by
    rcases h with h | ⟨p, vs, ns, e, hp, lz, l, en, q⟩
    · exact .inl h
    · exact .inr ⟨p, vs, ns, e, hp, lz, l, en, fun i x m hx hm => (q i x m hx hm).up⟩
theorem CTr.mono {k j : Nat} {H : Hp} {v : V} {n : Int} (h : CTr H k v n) (hk : k ≤ j) : CTr H j v n := by
  obtain ⟨d, rfl⟩ := Nat.le.dest hk
  clear hk
  induction d with
  | zero => exact h
  | succ d ih => exact ih.up
theorem rep_get {α : Type} {m i : Nat} {x y : α} (h : (List.replicate m x)[i]? = some y) : y = x := by
  rw [List.getElem?_replicate] at h
  split at h
  · exact (Option.some.inj h).symm
  · cases h
theorem NA.count : ∀ {ds : List Nat} {H : Hp} {v : V} {cs : List Int} {as : List Addr}, NA H ds v cs as → (∀ d ∈ ds, d < 1000000) → CTr H (ds.length + 1) v (prod ds : Nat)
  | [], H, v, cs, as, h, _ => by
    obtain ⟨c, e, _, _⟩ := h
    exact .inl ⟨c, e, rfl⟩
  | d :: r, H, v, cs, as, h, hd => by
    obtain ⟨p, vs, ass, e, hp, l1, l2, ea, q⟩ := h
    have h0 := hd d List.mem_cons_self
    refine .inr ⟨p, vs, List.replicate d (prod r : Int), e, hp, by omega, by rw [List.length_replicate, l1], ?_, fun i x m hx hm => ?_⟩
    · rw [sum_rep]
      show ((d * prod r : Nat) : Int) = _
      rw [Int.natCast_mul]
    · have hi := (List.getElem?_eq_some_iff.mp hx).1
      have hi2 : i < ass.length := by omega
      rw [rep_get hm]
      exact (q i x ass[i] hx (List.getElem?_eq_getElem hi2)).count fun y hy => hd y (List.mem_cons_of_mem _ hy)
/-- down the first lists of a nested table, then one number more in the last of them -/
theorem NA.bump : ∀ {ds : List Nat} {H : Hp} {v : V} {cs : List Int} {as : List Addr}, NA H ds v cs as → as.Nodup → ds ≠ [] → (∀ d ∈ ds, 0 < d ∧ d < 1000000) →
    ∃ f : Nat → V, f 0 = v ∧ (∀ i, i + 1 < ds.length → ∃ (p : Addr) (xs : List V), f i = .ref p ∧ H p = some (.lst (f (i + 1) :: xs))) ∧
      ∃ (q : Addr) (xs : List V), f (ds.length - 1) = .ref q ∧ q ∈ as ∧ H q = some (.lst xs) ∧ xs.length < 1000000 ∧ CTr (upd H q (.lst (xs ++ [V.int 9]))) (ds.length + 1) v ((prod ds : Nat) + 1)
  | [], _, _, _, _, _, _, ne, _ => absurd rfl ne
  | [d], H, v, cs, as, h, nd, _, hd => by
    obtain ⟨p, vs, ass, rfl, hp, l1, l2, rfl, q⟩ := h
    have h0 := (hd d List.mem_cons_self).2
    refine ⟨fun _ => .ref p, rfl, fun i hi => by simp at hi, p, vs, rfl, List.mem_cons_self, hp, by omega, .inr ⟨p, _, List.replicate (d + 1) 1, rfl, upd_same, ?_, ?_, ?_, fun i x m hx hm => ?_⟩⟩
    · rw [List.length_append, l1]
      show d + 1 ≤ _
      omega
    · rw [List.length_replicate, List.length_append, l1]
      rfl
    · rw [sum_rep]
      show ((d * 1 : Nat) : Int) + 1 = _
      omega
    · rw [rep_get hm]
      by_cases hi : i < vs.length
      · rw [List.getElem?_append_left hi] at hx
        have hi2 : i < ass.length := by omega
        obtain ⟨c, e, _⟩ := q i x ass[i] hx (List.getElem?_eq_getElem hi2)
        exact .inl ⟨c, e, rfl⟩
      · rw [List.getElem?_append_right (by omega)] at hx
        have hj : i - vs.length = 0 := by
          cases e : i - vs.length with
          | zero => rfl
          | succ n => rw [e] at hx; simp at hx
        rw [hj] at hx
        exact .inl ⟨9, (Option.some.inj hx).symm, rfl⟩
  | d :: d2 :: r, H, v, cs, as, h, nd, _, hd => by
    obtain ⟨p, vs, ass, rfl, hp, l1, l2, rfl, q⟩ := h
    obtain ⟨h0, h1⟩ := hd d List.mem_cons_self
    match vs, ass, l1, l2, hp, q, nd with
    | [], _, l1, _, _, _, _ => exact absurd (show d = 0 from l1.symm) (by omega)
    | _ :: _, [], _, l2, _, _, _ => exact absurd (show d = 0 from l2.symm) (by omega)
    | x :: xs, l0 :: ls, l1, l2, hp, q, nd =>
      have nd1 : p ∉ l0 ++ ls.flatten := (List.nodup_cons.mp nd).1
      have nd2 : (l0 ++ ls.flatten).Nodup := (List.nodup_cons.mp nd).2
      obtain ⟨nA, nB, nC⟩ := List.nodup_append.mp nd2
      obtain ⟨f, f0, fs, q0, ys, fq, mq, hq, lz, ct⟩ := (q 0 x l0 rfl rfl).bump nA (by simp) fun y hy => hd y (List.mem_cons_of_mem _ hy)
      have npq : p ≠ q0 := fun z => nd1 (List.mem_append_left _ (z ▸ mq))
      refine ⟨fun i => match i with | 0 => .ref p | i + 1 => f i, rfl, fun i hi => ?_, q0, ys, fq, List.mem_cons_of_mem _ (List.mem_append_left _ mq), hq, lz, ?_⟩
      · cases i with
        | zero =>
          refine ⟨p, xs, rfl, ?_⟩
          show H p = some (.lst (f 0 :: xs))
          rw [f0]
          exact hp
        | succ i => exact fs i (by simpa using hi)
      · have lx : xs.length + 1 = d := l1
        refine .inr ⟨p, x :: xs, ((prod (d2 :: r) : Nat) + 1 : Int) :: List.replicate xs.length (prod (d2 :: r) : Int), rfl, ?_, ?_, ?_, ?_, fun i y m hy hm => ?_⟩
        · rw [upd_ne npq]
          exact hp
        · rw [List.length_cons]
          omega
        · rw [List.length_cons, List.length_cons, List.length_replicate]
        · rw [List.sum_cons, sum_rep]
          show ((d * prod (d2 :: r) : Nat) : Int) + 1 = _
          rw [← lx, Int.natCast_mul, Int.natCast_add, Int.add_mul]
          omega
        · cases i with
          | zero =>
            have e1 : x = y := Option.some.inj hy
            have e2 : ((prod (d2 :: r) : Nat) + 1 : Int) = m := Option.some.inj hm
            rw [← e1, ← e2]
            exact ct
          | succ i =>
            have hy : xs[i]? = some y := hy
            have hm : (List.replicate xs.length (prod (d2 :: r) : Int))[i]? = some m := hm
            have hi := (List.getElem?_eq_some_iff.mp hy).1
            have ll : ls.length + 1 = d := l2
            have hi2 : i < ls.length := by omega
            have gl : ls[i]? = some ls[i] := List.getElem?_eq_getElem hi2
            rw [rep_get hm]
            have na := q (i + 1) y ls[i] hy gl
            refine (na.frame fun z hz u hu => ?_).count fun y hy => (hd y (List.mem_cons_of_mem _ hy)).2
            have ne : z ≠ q0 := fun e => nC q0 mq z (mem_flat gl hz) e.symm
            rw [upd_ne ne]
            exact hu
def spOwn : Sp := fun vs H Q _ => ∃ (t a b : Addr) (ds : List Nat) (cs : List Int), vs = [.ref t, .ref a, .int (prod ds : Nat)] ∧ Tabl H t a b ds cs ∧ cs.length = prod ds ∧ Ok ds ∧ ∀ H', Same H H' → Q (.bl true) H'
section
variable {P : Program} {w : World} {K : PySem.W.Frag} {mg : Str → Option Value} {base : Heap} {f fA fN fC : Addr} {fd fdA fdN fdC : FuncData}
theorem ok_own (F : Fun K "_law_own_lists" "_law_own_lists" sOwnLists f fd) (B : Blt mg) (GA : Fn P w K mg base CX0 3 "all_at" fA fdA ["sides"] spAllAt) (GN : Fn P w K mg base CX0 9 "nested" fN fdN ["tab"] (spNested 7))
    (GC : Fn P w K mg base CX0 8 "_law_count" fC fdC ["thing"] (spCount 7)) : FnOk P w K mg base CX0 10 f fd ["tab", "sides", "size"] spOwn := by
  refine F.ok scOwnLists (fun vs H Q E h => ?_) (fun cdv A outer s H vs Q E hr h => ?_)
  · obtain ⟨t, a, b, ds, cs, rfl, _⟩ := h
    rfl
  obtain ⟨t, a, b, ds, cs, rfl, T, hl, ok, q⟩ := h
  refine ⟨_, pss_cons (ps_set (i := 3) scOwnLists.nd rfl (.inl rfl) (pe_call GN.ok hr (by rfl) GN.g GN.k GN.b .nil pass0 (pa_cons (pv 0) pa_nil)))
    (pss_cons (ps_set (i := 4) scOwnLists.nd rfl (.inl rfl) (pe_call GA.ok (hr.mono (by decide)) (by rfl) GA.g GA.k GA.b .nil pass0 (pa_cons (pv 1) pa_nil)))
    (pss_cons (ps_expr (pe_bm PySem.F.plainAttrs_list PySem.F.slot_list_append PySem.F.type_list_append mt_append (pv 4) (pa_cons (pe_tup pa_nil) pa_nil)))
    (C8.pss_cut (ps_if (PW.pt (pw_and (pt_cmpR op_gt (pe_callB call_len_seq (by rfl) B.len PySem.boot_len (pa_cons (pv 1) pa_nil)) pe_int (nomark _)) (pw_and1 (pt_cmpR op_gt (pv 2) pe_int (nomark _)))))
      (pss_cons (ps_set (i := 5) scOwnLists.nd rfl (.inl rfl) (pv 3))
      (pss_cons (ps_for PassesOwn.never rfl (pi_range1 (by rfl) B.range (pa_cons (pe_op op_sub (pe_callB call_len_seq (by rfl) B.len PySem.boot_len (pa_cons (pv 1) pa_nil)) pe_int) pa_nil)) (pg_name (i := 6) scOwnLists.nd rfl (.inl rfl))
        (pss_one (ps_set (i := 5) scOwnLists.nd rfl (.inl rfl) (pe_ix ix_list (pv 5) pe_int (fun _ _ => rfl)))))
      (pss_cons (ps_expr (pe_bm PySem.F.plainAttrs_list PySem.F.slot_list_append PySem.F.type_list_append mt_append (pv 5) (pa_cons pe_int pa_nil)))
      (pss_one (ps_if (PW.pt (pw_or (pt_cmpR op_ne (pe_call GC.ok (hr.mono (by decide)) (by rfl) GC.g GC.k GC.b .nil pass0 (pa_cons (pv 3) pa_nil)) (pe_op op_add (pv 2) pe_int) (nomark _))
          (pw_or1 (pt_cmpR op_ne (pe_call GC.ok (hr.mono (by decide)) (by rfl) GC.g GC.k GC.b .nil pass0 (pa_cons (pe_call GN.ok hr (by rfl) GN.g GN.k GN.b .nil pass0 (pa_cons (pv 0) pa_nil)) pa_nil)) (pv 2) (nomark _)))))
        (pss_one (ps_ret pe_bl)) pss_nil))))) pss_nil)
    (pss_one (ps_ret (pe_cmpR op_eq (pe_callB call_len_seq (by rfl) B.len PySem.boot_len (pa_cons (pe_call GA.ok (hr.mono (by decide)) (by rfl) GA.g GA.k GA.b .nil pass0 (pa_cons (pv 1) pa_nil)) pa_nil)) (pv 2) (nomark _))))))), ?_⟩
  have pr := ok.prod
  have n6 := ok.1
  refine ⟨_, rfl, t, a, b, ds, cs, rfl, T, ok.few, hl, by omega, fun v H1 as s1 na nd new => ?_⟩
  refine ⟨_, rfl, a, ds, rfl, s1.tu T.sides, ok.few, by omega, fun p H2 qs s2 np ep lq hq => ?_⟩
  refine ⟨_, rfl, .inl ⟨rfl, _, .inl (.inl ep)⟩, Nat.zero_le _, fun e ne => ?_⟩
  have t3 := same_laid ne (.tup [])
  refine ⟨p, _, _, rfl, rfl, t3 _ _ ep, ?_, ?_⟩
  · rw [List.length_map, lq]
    exact small1000 (by omega)
  have s14 : Same H1 (upd (upd H2 e (.tup [])) p (.lst (qs.map V.ref ++ [V.ref e]))) := (s2.trans t3).put np
  generalize upd (upd H2 e (.tup [])) p (.lst (qs.map V.ref ++ [V.ref e])) = H4 at s14 ⊢
  have s4 := s1.trans s14
  refine ⟨fun σ H' => Same H H' ∧ ∃ y5 y6 : Option V, σ = [some (.ref t), some (.ref a), some (.int (prod ds : Nat)), some v, some (.ref p), y5, y6], ?_, fun σ H' h => ?_⟩
  · refine ⟨_, rfl, a, _, rfl, .inr (.inl (.inl (s4.tu T.sides))), _, _, rfl, rfl, _, rfl, ?_⟩
    rw [iv_len]
    by_cases c1 : (ds.length : Int) > 0
    · rw [decide_eq_true c1]
      refine iteT ⟨_, rfl, _, _, rfl, rfl, _, rfl, ?_⟩
      by_cases c2 : (prod ds : Int) > 0
      · rw [decide_eq_true c2]
        have hpos := prod_pos (ds := ds) (by omega)
        obtain ⟨g, g0, gs, q0, xs, gq, mq, hq0, lz, ct⟩ := (na.frame fun x hx u hu => s14 _ _ hu).bump nd (by intro z; rw [z] at c1; simp at c1) fun d hd => ⟨hpos d hd, ok.few.2 d hd⟩
        refine iteT ⟨_, rfl, _, rfl, a, _, rfl, .inr (.inl (.inl (s4.tu T.sides))), _, _, rfl, rfl, _, rfl, by rw [iv_len]; omega, by rw [iv_len]; omega, ?_⟩
        rw [iv_len]
        refine for_range (lo := 0) (n := ((ds.length : Int) - 1).toNat) (fun i σ H' => H' = H4 ∧ ∃ y6 : Option V, σ = [some (.ref t), some (.ref a), some (.int (prod ds : Nat)), some v, some (.ref p), some (g i), y6])
          ⟨rfl, none, by rw [g0]; rfl⟩ (fun i σ H' hi h => ?_) (fun σ H' h => ?_)
        · obtain ⟨rfl, y6, rfl⟩ := h
          obtain ⟨p2, xs2, e1, e2⟩ := gs i (by omega)
          exact ⟨g i, rfl, p2, _, 0, g (i + 1), e1, rfl, .inl (.inl e2), atI_nat (j := 0) rfl, rfl, _, rfl⟩
        · obtain ⟨rfl, y6, rfl⟩ := h
          have en : ((ds.length : Int) - 1).toNat = ds.length - 1 := by omega
          rw [en, gq]
          refine ⟨_, rfl, .inl ⟨rfl, xs, .inl (.inl hq0)⟩, q0, xs, _, rfl, rfl, hq0, Nat.lt_trans lz (by decide), ?_⟩
          have s5 : Same H (upd H' q0 (.lst (xs ++ [V.int 9]))) := s4.put (new q0 mq)
          refine ⟨v, rfl, v, _, rfl, ct.mono (by omega), fun H6 s6 => ⟨_, rfl, _, _, rfl, rfl, rfl, _, rfl, ?_⟩⟩
          refine iteNS rfl ?_
          refine ⟨_, rfl, t, a, b, ds, cs, rfl, T.same (s5.trans s6), ok.few, hl, by omega, fun v2 H7 as2 s7 na2 _ _ => ?_⟩
          refine ⟨v2, _, rfl, (na2.count ok.few.2).mono (by omega), fun H8 s8 => ⟨_, rfl, rfl, _, rfl, ?_⟩⟩
          exact iteNS rfl ⟨s5.trans (s6.trans (s7.trans s8)), _, _, rfl⟩
      · rw [decide_eq_false c2]
        exact iteF ⟨s4, _, _, rfl⟩
    · rw [decide_eq_false c1]
      exact iteF ⟨s4, _, _, rfl⟩
  · obtain ⟨sm, y5, y6, rfl⟩ := h
    refine ⟨_, rfl, a, ds, rfl, sm.tu T.sides, ok.few, by omega, fun p9 H9 qs9 s9 _ ep9 lq9 _ => ?_⟩
    refine ⟨p9, _, rfl, .inl (.inl (.inl ep9)), _, rfl, rfl, ?_⟩
    rw [List.length_map, lq9, decide_eq_true rfl]
    exact q H9 (sm.trans s9)
end
end K9

set_option Elab.async false
set_option linter.all false
set_option maxRecDepth 100000
/-! The law itself. -/
namespace K9
open PySem PySem.Spec PyProof.Rows L2 RZ RT
def spLaw (K : PySem.W.Frag) : Sp := fun vs H Q _ => ∃ (a : Addr) (ns : List Int), vs = [.ref a] ∧ SqL K H a (ns.map V.int) ∧ ns.length ≤ 63 ∧ ∀ H', Q (.bl true) H'
/-- a table as data -/
abbrev dTab (ds : List Nat) (cs : List Int) : PyData := .tuple [dTup (ds.map fun n : Nat => (n : Int)), dTup cs]
theorem can_tab (ds : List Nat) (cs : List Int) : (dTab ds cs).canLay0 = true := by
  show (PyData.canLay0 (dTup (ds.map fun n : Nat => (n : Int))) && (PyData.canLay0 (dTup cs) && true)) = true
  rw [can_tup, can_tup]
  rfl
theorem shaped_tab (ds : List Nat) (cs : List Int) : SeqAt.shaped (dTab ds cs) = true := by
  refine Bool.and_eq_true_iff.mpr ⟨can_tab ds cs, decide_eq_true ?_⟩
  show Nat.max (PyData.depthAll ((ds.map fun n : Nat => (n : Int)).map PyData.int) + 1) (Nat.max (PyData.depthAll (cs.map PyData.int) + 1) 0) + 1 ≤ 64
  rw [deep_ints, deep_ints]
  decide
theorem dp_tab {K : PySem.W.Frag} {H : Hp} {t a b : Addr} {ds : List Nat} {cs : List Int} (T : Tabl H t a b ds cs) : Dp K H (.ref t) (dTab ds cs) :=
  .tup (.inl (.inl T.top)) (.cons (dp_iv T.sides) (.cons (dp_tup T.cells) .nil))
/-- the list that the law's cells are -/
theorem cut_ints (ns : List Int) (lo hi : Option Int) : ∃ ms : List Int, cutV (ns.map V.int) lo hi = ms.map V.int := by
  unfold cutV
  exact ⟨(ns.drop (HT.sIx (ns.map V.int).length 0 lo)).take (HT.sIx (ns.map V.int).length (ns.map V.int).length hi - HT.sIx (ns.map V.int).length 0 lo), by rw [List.map_take, List.map_drop]⟩
section
variable {P : Program} {w : World} {K : PySem.W.Frag} {mg : Str → Option Value} {base : Heap} {f f1 f2 f3 f4 f5 f6 f7 f8 f9 f10 : Addr} {fd fd1 fd2 fd3 fd4 fd5 fd6 fd7 fd8 fd9 fd10 : FuncData} {CT CU : Addr}
theorem ok_law (F : Fun K "law" "law" sLaw f fd) (B : Blt mg) (G1 : Fn P w K mg base CX0 2 "_law_sides" f1 fd1 ["script"] (spSides K)) (G2 : Fn P w K mg base CX0 1 "_law_at" f2 fd2 ["script", "k"] (spLawAt K))
    (G3 : Fn P w K mg base (L2.CX P w) 3 "table_of" f3 fd3 ["sides", "cells"] (spTable K CT CU)) (G4 : Fn P w K mg base CX0 10 "_law_cells" f4 fd4 ["tab", "sides", "cells"] spCells) (G5 : Fn P w K mg base CX0 4 "_law_strange" f5 fd5 ["tab", "sides", "drawn"] spStrange)
    (G6 : Fn P w K mg base CX0 10 "_law_own_lists" f6 fd6 ["tab", "sides", "size"] spOwn) (G7 : Fn P w K mg base CX0 2 "alone" f7 fd7 ["n"] spAlone) (G8 : Fn P w K mg base CX0 1 "_law_held" f8 fd8 ["found", "due"] spHeld)
    (G9 : Fn P w K mg base CX0 9 "nested" f9 fd9 ["tab"] (spNested 7)) (G10 : Fn P w K mg base CX0 4 "_law_refusal" f10 fd10 ["sides", "cells"] (spRefusal K)) : FnOk P w K mg base CX0 11 f fd ["script"] (spLaw K) := by
  refine F.ok scLaw (fun vs H Q E h => ?_) (fun cdv A outer s H vs Q E hr h => ?_)
  · obtain ⟨a, ns, rfl, _⟩ := h
    rfl
  obtain ⟨a, ns, rfl, hS, h63, q⟩ := h
  refine ⟨_, pss_cons (ps_set (i := 1) scLaw.nd rfl (.inl rfl) (pe_call G1.ok (hr.mono (by decide)) (by rfl) G1.g G1.k G1.b .nil pass0 (pa_cons (pv 0) pa_nil)))
    (pss_cons (ps_set (i := 2) scLaw.nd rfl (.inl rfl) pe_int)
    (pss_cons (ps_for PassesOwn.never rfl (pi_tup (pv 1)) (pg_name (i := 3) scLaw.nd rfl (.inl rfl)) (pss_one (ps_set (i := 2) scLaw.nd rfl (.inl rfl) (pe_op op_mul (pv 2) (pv 3)))))
    (pss_cons (ps_set (i := 4) scLaw.nd rfl (.inl rfl) (pe_slice sl_list (pe_slice sl_list (pv 0) po_none (po_some pe_int)) po_none (po_some (pv 2))))
    (pss_cons (ps_set (i := 4) scLaw.nd rfl (.inl rfl) (pe_op op_cat (pv 4) (pe_lc (own := [("k", 8)]) (g := gName 8) (tt := tYes) rfl scLaw.nd (pi_range1 (by rfl) B.range (pa_cons (pe_op op_sub (pv 2) (pe_callB call_len_seq (by rfl) B.len PySem.boot_len (pa_cons (pv 4) pa_nil))) pa_nil))
      (blkOk_by (N := ["script", "sides", "size", "side", "cells", "handed", "tab", "lone", "k"]) (sc := defScope sLaw) (by decide +kernel)) (fun _ _ _ _ _ => pg_name (i := 8) scLaw.nd rfl (Or.inl rfl)) (fun _ _ _ _ _ => pts_nil)
      (fun _ _ _ _ _ => pe_op op_sub (pe_op op_mul (pe_call G2.ok (hr.mono (by decide)) (by rfl) G2.g G2.k G2.b .nil pass0 (pa_cons (pv 0) (pa_cons pe_int pa_nil))) (pv 8)) (pe_op op_mul (pv 8) (pv 8))))))
    (pss_cons (ps_set (i := 5) scLaw.nd rfl (.inl rfl) (pe_callTy call_list_of (by rfl) B.list (by decide +kernel) (pa_cons (pv 4) pa_nil)))
    (pss_cons (ps_set (i := 6) scLaw.nd rfl (.inl rfl) (pe_call G3.ok (hr.mono (by decide)) (by rfl) G3.g G3.k G3.b .nil passL (pa_cons (pv 1) (pa_cons (pv 5) pa_nil))))
    (C8.pss_cut (ps_if (PW.pt (pw_or (pt_cmpR (op_neD hr.units) (pv 5) (pv 4) (nomark _)) (pw_or1 (PW.pt (pw_and (pt_cmpR op_eq (pe_op op_modN (pe_op op_fdivN (pe_call G2.ok (hr.mono (by decide)) (by rfl) G2.g G2.k G2.b .nil pass0 (pa_cons (pv 0) (pa_cons pe_int pa_nil))) pe_int) pe_int) pe_int (nomark _))
        (pw_and1 (pt_cmpR (op_neD hr.units) (pe_call G3.ok (hr.mono (by decide)) (by rfl) G3.g G3.k G3.b .nil passL (pa_cons (pv 1) (pa_cons (pe_callTy call_tuple_of (by rfl) B.tuple (by decide +kernel) (pa_cons (pv 4) pa_nil)) pa_nil))) (pv 6) (nomark _)))))))) (pss_one (ps_ret pe_bl)) pss_nil)
    (pss_cons (ps_if (PW.pt (pw_or (pt_not (pt_val (pe_call G4.ok hr (by rfl) G4.g G4.k G4.b .nil pass0 (pa_cons (pv 6) (pa_cons (pv 1) (pa_cons (pv 4) pa_nil))))))
        (pw_or1 (pt_not (pt_val (pe_call G5.ok (hr.mono (by decide)) (by rfl) G5.g G5.k G5.b .nil pass0 (pa_cons (pv 6) (pa_cons (pv 1) (pa_cons (pe_call G2.ok (hr.mono (by decide)) (by rfl) G2.g G2.k G2.b .nil pass0 (pa_cons (pv 0) (pa_cons pe_int pa_nil))) pa_nil))))))))) (pss_one (ps_ret pe_bl)) pss_nil)
    (pss_cons (ps_if (pt_not (pt_val (pe_call G6.ok hr (by rfl) G6.g G6.k G6.b .nil pass0 (pa_cons (pv 6) (pa_cons (pv 1) (pa_cons (pe_callB call_len_seq (by rfl) B.len PySem.boot_len (pa_cons (pv 4) pa_nil)) pa_nil)))))) (pss_one (ps_ret pe_bl)) pss_nil)
    (pss_cons (ps_set (i := 7) scLaw.nd rfl (.inl rfl) (pe_call G7.ok (hr.mono (by decide)) (by rfl) G7.g G7.k G7.b .nil pass0 (pa_cons (pe_call G2.ok (hr.mono (by decide)) (by rfl) G2.g G2.k G2.b .nil pass0 (pa_cons (pv 0) (pa_cons pe_int pa_nil))) pa_nil)))
    (pss_cons (ps_if (PW.pt (pw_or (pt_not (pt_val (pe_callB call_isi (by rfl) B.isi (by decide +kernel) (pa_cons (pv 7) (pa_cons (pe_bltn (v := .ty "tuple") (u := .type "tuple") (by rfl) B.tuple (by decide +kernel) rfl) pa_nil)))))
        (pw_or (pt_cmpR op_ne (pe_callB call_len_seq (by rfl) B.len PySem.boot_len (pa_cons (pv 7) pa_nil)) pe_int (nomark _))
        (pw_or (pt_cmpR (op_neD hr.units) (pe_ix ix_tup (pv 7) pe_int (fun _ _ => rfl)) (pe_tup pa_nil) (nomark _))
        (pw_or1 (pt_not (pt_val (pe_callB call_isi (by rfl) B.isi (by decide +kernel) (pa_cons (pe_ix ix_tup (pv 7) pe_int (fun _ _ => rfl)) (pa_cons (pe_bltn (v := .ty "tuple") (u := .type "tuple") (by rfl) B.tuple (by decide +kernel) rfl) pa_nil)))))))))) (pss_one (ps_ret pe_bl)) pss_nil)
    (pss_cons (ps_if (PW.pt (pw_or (pt_cmpR op_ne (pe_callB call_len_seq (by rfl) B.len PySem.boot_len (pa_cons (pe_ix ix_tup (pv 7) pe_int (fun _ _ => rfl)) pa_nil)) pe_int (nomark _))
        (pw_or (pt_not (pt_val (pe_call G8.ok (hr.mono (by decide)) (by rfl) G8.g G8.k G8.b .nil pass0 (pa_cons (pe_ix ix_tup (pe_ix ix_tup (pv 7) pe_int (fun _ _ => rfl)) pe_int (fun _ _ => rfl)) (pa_cons (pe_call G2.ok (hr.mono (by decide)) (by rfl) G2.g G2.k G2.b .nil pass0 (pa_cons (pv 0) (pa_cons pe_int pa_nil))) pa_nil)))))
        (pw_or1 (pt_cmpR op_ne (pe_call G9.ok (hr.mono (by decide)) (by rfl) G9.g G9.k G9.b .nil pass0 (pa_cons (pv 7) pa_nil)) (pe_ix ix_tup (pe_ix ix_tup (pv 7) pe_int (fun _ _ => rfl)) pe_int (fun _ _ => rfl)) (nomark _)))))) (pss_one (ps_ret pe_bl)) pss_nil)
    (pss_cons (ps_if (PW.pt (pw_or (pt_cmpR op_ne (pe_call G10.ok (hr.mono (by decide)) (by rfl) G10.g G10.k G10.b .nil pass0 (pa_cons (pv 1) (pa_cons (pe_op op_cat (pv 4) (pe_lst (pa_cons pe_int pa_nil))) pa_nil))) pe_str (nomark _))
        (pw_or1 (pt_cmpR op_ne (pe_call G10.ok (hr.mono (by decide)) (by rfl) G10.g G10.k G10.b .nil pass0 (pa_cons (pe_op op_catA (pe_tup (pa_cons pe_int (pa_cons pe_int pa_nil))) (pe_slice sl_tupA (pv 1) po_none (po_some pe_int))) (pa_cons (pv 4) pa_nil))) pe_str (nomark _))))) (pss_one (ps_ret pe_bl)) pss_nil)
    (C8.pss_cut (ps_if (PW.pt (pw_and (pt_cmpR op_gt (pe_callB call_len_seq (by rfl) B.len PySem.boot_len (pa_cons (pv 4) pa_nil)) pe_int (nomark _))
        (pw_and1 (pt_cmpR op_ne (pe_call G10.ok (hr.mono (by decide)) (by rfl) G10.g G10.k G10.b .nil pass0 (pa_cons (pv 1) (pa_cons (pe_slice sl_list (pv 4) (po_some pe_int) po_none) pa_nil))) pe_str (nomark _))))) (pss_one (ps_ret pe_bl)) pss_nil)
    (pss_one (ps_ret (pe_cmpR op_eq (pe_call G10.ok (hr.mono (by decide)) (by rfl) G10.g G10.k G10.b .nil pass0
      (pa_cons (pe_tup (pa_cons pe_int (pa_cons pe_int (pa_cons pe_int (pa_cons pe_int (pa_cons pe_int (pa_cons pe_int (pa_cons pe_int pa_nil)))))))) (pa_cons (pe_lst (pa_cons pe_int pa_nil)) pa_nil))) pe_str (nomark _)))))))))))))))))), ?_⟩
  have n0 : (1 : Nat) ≤ sizeLine := by decide
  have n1 : 2000 < sizeLine := by decide
  refine ⟨_, rfl, a, ns, rfl, hS, h63, fun ds sd H1 ok s1 hD => ?_⟩
  have pr := ok.prod
  have few := ok.few
  refine ⟨_, rfl, sd, rfl, ⟨_, .inl (.inl hD)⟩, for_tup (xs := iv ds) (fun i σ H' => H' = H1 ∧ ∃ y3, σ = [some (.ref a), some (.ref sd), some (.int (prod (ds.take i) : Nat)), y3, none, none, none, none, none]) ⟨rfl, none, rfl⟩ (fun i σ H' _ h => ?_) (fun i x σ H' hx h => ?_) (fun σ H' h => ?_)⟩
  · rw [h.1]
    exact .inl (.inl hD)
  · obtain ⟨rfl, y, rfl⟩ := h
    obtain ⟨d, hd, rfl⟩ := iv_get hx
    have hb := few.2 d (List.mem_of_getElem? hd)
    refine ⟨_, rfl, _, rfl, _, _, rfl, rfl, .inr ⟨by omega, by omega⟩, rfl, some (.int (d : Int)), ?_⟩
    rw [prod_take hd, Int.natCast_mul]
    rfl
  obtain ⟨rfl, y3, rfl⟩ := h
  rw [iv_len, List.take_length]
  -- the cells
  refine ⟨_, rfl, ?_⟩
  delta tNoPart
  refine ⟨400, rfl, a, _, rfl, s1.seq hS, fun p2 np2 => ?_⟩
  have s2 := same_laid np2 (.lst (cutV (ns.map V.int) none (some 400)))
  refine ⟨_, rfl, _, rfl, p2, _, rfl, .inl (.inl upd_same), fun p3 np3 => ?_⟩
  have s3 := same_laid np3 (.lst (cutV (cutV (ns.map V.int) none (some 400)) none (some ((prod ds : Nat) : Int))))
  obtain ⟨m1, e1⟩ := cut_ints ns none (some 400)
  obtain ⟨m2, e2⟩ := cut_ints m1 none (some ((prod ds : Nat) : Int))
  have l2 : m2.length ≤ prod ds := by
    have z := congrArg List.length e2
    rw [cutV_to, List.length_take, List.length_map, List.length_map] at z
    omega
  rw [e1, e2] at s3 ⊢
  rw [e1] at s2
  have s4 := s1.trans (s2.trans s3)
  have e4 : (upd (upd H' p2 (.lst (m1.map V.int))) p3 (.lst (m2.map V.int))) p3 = some (.lst (m2.map V.int)) := upd_same
  generalize (upd (upd H' p2 (.lst (m1.map V.int))) p3 (.lst (m2.map V.int))) = H4 at s3 s4 e4 ⊢
  have s14 := s2.trans s3
  refine ⟨_, rfl, _, rfl, _, rfl, p3, _, rfl, .inl (.inl (.inl e4)), _, _, rfl, rfl, _, rfl, ?_⟩
  rw [List.length_map]
  refine ⟨by omega, by omega, fun D nD => ?_⟩
  refine lc_range (lo := 0) (n := (((prod ds : Nat) : Int) - (m2.length : Int)).toNat) (fun i H2 => Same H4 H2 ∧ ∃ os : List Int, H2 D = some (.lst (os.map V.int)) ∧ os.length = i) ⟨same_laid nD _, [], upd_same, rfl⟩ (fun i H2 hi h => ?_) (fun H2 h => ?_)
  · obtain ⟨s5, os, eD, lo⟩ := h
    refine ⟨rfl, _, rfl, a, ns, 1, rfl, (s4.trans s5).seq hS, _, rfl, _, _, rfl, rfl, .inr ⟨by omega, by omega⟩, _, rfl, _, rfl, _, _, rfl, rfl, .inr ⟨by omega, by omega⟩, _, _, rfl, rfl, _, eD, ?_, s5.put nD, os ++ [lawAt ns 1 * (0 + (i : Int)) - (0 + (i : Int)) * (0 + (i : Int))], ?_, ?_⟩
    · rw [List.length_map, lo]
      omega
    · rw [upd_same, List.map_append]
      rfl
    · rw [List.length_append, lo]
      rfl
  obtain ⟨s5, os, eD, lo⟩ := h
  refine ⟨p3, D, _, _, rfl, rfl, s5 _ _ e4, eD, by rw [List.length_map, List.length_map]; omega, fun c nc => ?_⟩
  have s6 := same_laid nc (.lst (m2.map V.int ++ os.map V.int))
  have ec : (upd H2 c (.lst (m2.map V.int ++ os.map V.int))) c = some (.lst ((m2 ++ os).map V.int)) := by rw [upd_same, List.map_append]
  have lc : (m2 ++ os).length = prod ds := by rw [List.length_append]; omega
  generalize (upd H2 c (.lst (m2.map V.int ++ os.map V.int))) = H6 at s6 ec ⊢
  have s06 := s4.trans (s5.trans s6)
  have s16 := s14.trans (s5.trans s6)
  generalize m2 ++ os = cs at ec lc
  clear eD lo e4 l2 e2 e1 s2 s3 s5 s6 nc nD np3 np2
  refine ⟨_, rfl, c, _, rfl, .inl (.inl (.inl ec)), fun hd nh => ?_⟩
  have s7 := same_laid nh (.lst (cs.map V.int))
  have eh : (upd H6 hd (.lst (cs.map V.int))) hd = some (.lst (cs.map V.int)) := upd_same
  generalize (upd H6 hd (.lst (cs.map V.int))) = H7 at s7 eh ⊢
  refine ⟨_, rfl, _, rfl, sd, hd, ds, cs, rfl, (s16.trans s7).tu hD, .inl (.inl (.inl eh)), few, by omega, fun z => absurd ok z, fun _ z => absurd lc z, fun _ _ t b H8 s8 T => ?_⟩
  have hS8 := (s06.trans (s7.trans s8)).seq hS
  have hD8 := (s16.trans (s7.trans s8)).tu hD
  have ec8 := (s7.trans s8) _ _ ec
  have eh8 := s8 _ _ eh
  refine ⟨fun σ H' => Same H8 H' ∧ σ = [some (.ref a), some (.ref sd), some (.int (prod ds : Nat)), y3, some (.ref c), some (.ref hd), some (.ref t), none, none], ?_, fun σ H' h => ?_⟩
  · refine ⟨_, rfl, _, rfl, _, _, dp_lst eh8, dp_lst ec8, shaped_lst _, shaped_lst _, _, rfl, ?_⟩
    rw [SeqAt.eqv_refl _ (can_lst cs)]
    refine iteF ⟨_, rfl, a, ns, 0, rfl, hS8, _, _, rfl, rfl, ⟨by decide, by decide⟩, _, _, rfl, rfl, nz rfl, rfl, _, rfl, ?_⟩
    refine ite2 (fun _ => ?_) (fun _ => iteF ⟨Same.refl H8, rfl⟩)
    refine ⟨_, rfl, _, rfl, c, _, rfl, .inl ⟨.inl (.inl ec8), fun u nu => ?_⟩⟩
    have s9 := same_laid nu (.tup (cs.map V.int))
    refine ⟨sd, u, ds, cs, rfl, s9.tu hD8, .inr upd_same, few, by omega, fun z => absurd ok z, fun _ z => absurd lc z, fun _ _ t2 b2 H10 s10 T2 => ?_⟩
    refine ⟨_, rfl, _, _, dp_tab T2, dp_tab (T.same (s9.trans s10)), shaped_tab _ _, shaped_tab _ _, _, rfl, ?_⟩
    rw [SeqAt.eqv_refl _ (can_tab ds _)]
    exact iteF ⟨s9.trans s10, rfl⟩
  clear eh8 eh nh s7 s8
  obtain ⟨s9, rfl⟩ := h
  clear hS hD ec s1 s06 s16
  have hS9 := s9.seq hS8
  have hD9 := s9.tu hD8
  have ec9 := s9 _ _ ec8
  have T9 := T.same s9
  clear hS8 hD8 ec8 T s9
  -- the three looks
  refine ⟨_, rfl, _, rfl, _, rfl, t, sd, b, c, ds, cs, rfl, T9, ec9, ok, lc, fun H10 s10 => ⟨true, rfl, ?_⟩⟩
  refine iteF ⟨_, rfl, _, rfl, _, rfl, a, ns, 4, rfl, s10.seq hS9, t, sd, b, ds, cs.map wrap, lawAt ns 4, rfl, T9.same s10, ok, fun H11 s11 => ⟨true, rfl, iteF ?_⟩⟩
  have s911 := s10.trans s11
  refine ⟨_, rfl, _, rfl, _, rfl, c, _, rfl, .inl (.inl (.inl (s911 _ _ ec9))), t, sd, b, ds, cs.map wrap, ?_, T9.same s911, by rw [List.length_map, lc], ok, fun H12 s12 => ⟨true, rfl, iteF ?_⟩⟩
  · rw [List.length_map, lc]
    rfl
  have s912 := s911.trans s12
  have hS12 := s912.seq hS9
  have hD12 := s912.tu hD9
  have ec12 := s912 _ _ ec9
  clear s912 s911 s12 s11 s10 T9 ec9 hD9 hS9
  -- a number alone
  refine ⟨_, rfl, a, ns, 2, rfl, hS12, lawAt ns 2, rfl, fun t3 a3 b3 H13 s13 T3 => ?_⟩
  refine ⟨_, rfl, _, _, _, _, true, rfl, .ty "tuple", .base (.tup T3.top), kit_ty (by decide +kernel), true, rfl, ?_⟩
  refine iteF ⟨_, rfl, t3, _, rfl, .inr (.inl (.inl T3.top)), rfl, _, rfl, ?_⟩
  refine iteF ⟨_, rfl, t3, _, 0, .ref a3, rfl, rfl, .inl (.inl T3.top), atI_nat (j := 0) rfl, Nat.zero_le _, fun e ne => ?_⟩
  have s14 := same_laid ne (.tup [])
  refine ⟨_, _, dp_iv (s14.tu T3.sides), dp_tup (ns := []) upd_same, shaped_tup _, shaped_tup _, _, rfl, ?_⟩
  have ee : PyData.eqv (dTup (([] : List Nat).map fun n : Nat => (n : Int))) (dTup []) = true := SeqAt.eqv_refl _ (can_tup [])
  rw [ee]
  have T4 := T3.same s14
  have s24 := s13.trans s14
  generalize upd H13 e (.tup []) = H14 at T4 s24 s14 ⊢
  have hc4 : Tu H14 b3 [V.int (wrap (lawAt ns 2))] := T4.cells
  refine iteF ⟨_, rfl, t3, _, 1, .ref b3, rfl, rfl, .inl (.inl T4.top), atI_nat (j := 1) rfl, _, _, _, _, true, rfl, .ty "tuple", .base (.tup hc4), kit_ty (by decide +kernel), true, rfl, iteF ?_⟩
  refine ⟨_, rfl, t3, _, 1, .ref b3, rfl, rfl, .inl (.inl T4.top), atI_nat (j := 1) rfl, b3, _, rfl, .inr (.inl (.inl hc4)), rfl, _, rfl, ?_⟩
  refine iteF ⟨_, rfl, t3, _, 1, .ref b3, rfl, rfl, .inl (.inl T4.top), atI_nat (j := 1) rfl, b3, _, 0, .int (wrap (lawAt ns 2)), rfl, rfl, .inl (.inl hc4), atI_nat (j := 0) rfl, _, rfl, a, ns, 2, rfl, s24.seq hS12, lawAt ns 2, rfl, true, rfl, ?_⟩
  refine iteF ⟨_, rfl, t3, a3, b3, [], [wrap (lawAt ns 2)], rfl, T4, ⟨by decide, fun d hd => nomatch hd⟩, rfl, by decide, fun v H15 as s15 na _ _ => ?_⟩
  obtain ⟨cc, rfl, e5, _⟩ := na
  have e6 : wrap (lawAt ns 2) = cc := (List.cons.inj e5).1
  refine ⟨_, rfl, t3, _, 1, .ref b3, rfl, rfl, .inl (.inl (s15.tu T4.top)), atI_nat (j := 1) rfl, b3, _, 0, .int (wrap (lawAt ns 2)), rfl, rfl, .inl (.inl (s15.tu hc4)), atI_nat (j := 0) rfl, rfl, _, rfl, ?_⟩
  rw [e6]
  refine iteNS rfl ?_
  have s25 := s24.trans s15
  have hD15 := s25.tu hD12
  have ec15 := s25 _ _ ec12
  clear hS12 hD12 ec12 T3 T4 hc4 s24 s25 s15 s14 s13 ee
  -- what is refused
  refine ⟨_, rfl, _, rfl, n0, fun l nl => ?_⟩
  have s16 := same_laid nl (.lst [V.int 7])
  refine ⟨c, l, _, _, rfl, rfl, s16 _ _ ec15, upd_same, by rw [List.length_map, lc]; show prod ds + 1 ≤ sizeLine; omega, fun p np => ?_⟩
  have s17 := s16.trans (same_laid np (.lst (cs.map V.int ++ [V.int 7])))
  have ep : (upd (upd H15 l (.lst [V.int 7])) p (.lst (cs.map V.int ++ [V.int 7]))) p = some (.lst ((cs ++ [7]).map V.int)) := by rw [upd_same, List.map_append]; rfl
  generalize (upd (upd H15 l (.lst [V.int 7])) p (.lst (cs.map V.int ++ [V.int 7]))) = H17 at s17 ep ⊢
  refine ⟨sd, p, ds, cs ++ [7], rfl, s17.tu hD15, .inl (.inl (.inl ep)), few, by rw [List.length_append, lc]; show prod ds + 1 ≤ 1000; omega, .inr ⟨ok, by rw [List.length_append, lc]; show prod ds + 1 ≠ prod ds; omega, fun H18 s18 => ⟨rfl, _, rfl, ?_⟩⟩⟩
  have s28 := s17.trans s18
  refine iteNS rfl ⟨by show 2 ≤ sizeLine; decide, fun p5 np5 => ?_⟩
  have s19 := same_laid np5 (.tup [V.int 9, V.int 57])
  refine ⟨_, rfl, ?_⟩
  try delta tNoPart
  refine ⟨2, rfl, ?_⟩
  refine cutS_ ((s28.trans s19).tu hD15) fun p6 H20 s20 e20 => ?_
  rw [show (2 : Int) = ((2 : Nat) : Int) from rfl, cutV_to] at e20
  refine catS (s20.tu upd_same) e20 (by rw [List.length_take, iv_len]; have := ok.1; show 2 + _ ≤ sizeLine; omega) fun p7 H21 s21 e21 => ?_
  have s31 := s28.trans (s19.trans (s20.trans s21))
  have e22 : Tu H21 p7 (iv (9 :: 57 :: ds.take 2)) := by
    rw [show iv (9 :: 57 :: ds.take 2) = [V.int 9, V.int 57] ++ (iv ds).take 2 by unfold iv; rw [← List.map_take]; rfl]
    exact e21
  have bad : ¬ Ok (9 :: 57 :: ds.take 2) := fun z => by
    have z2 : 9 * (57 * brd (ds.take 2)) ≤ 512 := z.2
    have z3 := brd_pos (ds.take 2)
    omega
  have few2 : Few (9 :: 57 :: ds.take 2) := by
    refine ⟨?_, fun d hd => ?_⟩
    · rw [List.length_cons, List.length_cons, List.length_take]
      omega
    · rcases List.mem_cons.mp hd with rfl | hd
      · decide
      · rcases List.mem_cons.mp hd with rfl | hd
        · decide
        · exact few.2 d (List.mem_of_mem_take hd)
  refine ⟨_, rfl, p7, c, _, cs, rfl, e22, .inl (.inl (.inl (s31 _ _ ec15))), few2, by omega, .inl ⟨bad, fun H22 s22 => ⟨rfl, _, rfl, iteNS rfl ?_⟩⟩⟩
  have s32 := s31.trans s22
  have hD22 := s32.tu hD15
  have ec22 := s32 _ _ ec15
  clear hD15 ec15 s16 s17 ep s18 s28 s19 s20 e20 s21 e21 e22 s31 s22 s32
  refine ⟨fun σ H' => True, ?_, fun σ H' _ => ?_⟩
  · refine ⟨_, rfl, c, _, rfl, .inl (.inl (.inl ec22)), _, _, rfl, rfl, _, rfl, ?_⟩
    refine ite2 (fun c1 => ?_) (fun _ => iteF True.intro)
    have c1 : ((cs.map V.int).length : Int) > 0 := of_decide_eq_true c1
    rw [List.length_map] at c1
    refine ⟨_, rfl, _, rfl, 1, rfl, ?_⟩
    try delta tNoPart
    refine ⟨c, _, rfl, .inl (.inl ec22), fun p8 np8 => ?_⟩
    have s23 := same_laid np8 (.lst (cutV (cs.map V.int) (some 1) none))
    have e23 : (upd H22 p8 (.lst (cutV (cs.map V.int) (some 1) none))) p8 = some (.lst ((cs.drop 1).map V.int)) := by rw [upd_same, cut_one, List.map_drop]
    refine ⟨sd, p8, ds, cs.drop 1, rfl, s23.tu hD22, .inl (.inl (.inl e23)), few, by rw [List.length_drop]; omega, .inr ⟨ok, by rw [List.length_drop]; omega, fun H24 s24 => ⟨rfl, _, rfl, iteNS rfl True.intro⟩⟩⟩
  · refine ⟨by show 7 ≤ sizeLine; decide, fun p9 np9 => ⟨n0, fun p10 np10 => ?_⟩⟩
    refine ⟨p9, p10, [1, 1, 1, 1, 1, 1, 1], [7], rfl, (same_laid np10 _).tu upd_same, .inl (.inl (.inl upd_same)), ⟨by decide, fun d hd => ?_⟩, by decide, .inl ⟨fun z => absurd z.1 (by decide), fun H24 s24 => ⟨rfl, ?_⟩⟩⟩
    · have : ∀ d ∈ ([1, 1, 1, 1, 1, 1, 1] : List Nat), d < 1000000 := by decide
      exact this d hd
    · rw [decide_eq_true rfl]
      exact q H24
end
end K9

set_option Elab.async false
set_option linter.all false
set_option maxRecDepth 100000
/-! What the top of the text leaves; the end. -/
namespace K9
open PySem PySem.Spec PyProof.Rows L2 RZ RT
theorem kit_ref {K : PySem.W.Frag} {C D : Addr} {b : Bool} (hn : (Value.ref C == Value.ref D) = false) (hi : PySem.W.isClsIn K D = true) (ht : PySem.W.typeIn K (.ref D) = some (.type "type")) (hs : PySem.W.subIn K (.ref C) (.ref D) = some b) : PySem.W.kitOne K (.ref C) (.ref D) = some b := by
  have e : ((PySem.W.clsIn K D).isSome && PySem.W.typeIn K (.ref D) == some (.type "type")) = true := by
    have hi2 : (PySem.W.clsIn K D).isSome = true := hi
    rw [hi2, ht]
    rfl
  unfold PySem.W.kitOne
  rw [hn, if_neg Bool.false_ne_true]
  show (if ((PySem.W.clsIn K D).isSome && PySem.W.typeIn K (.ref D) == some (.type "type")) = true then PySem.W.subIn K (.ref C) (.ref D) else none) = some b
  rw [if_pos e]
  exact hs
theorem kit_no4 {K : PySem.W.Frag} {t a b c d : Value} (h1 : PySem.W.kitOne K t a = some false) (h2 : PySem.W.kitOne K t b = some false) (h3 : PySem.W.kitOne K t c = some false) (h4 : PySem.W.kitOne K t d = some false) : PySem.W.kitAny K t [a, b, c, d] = some false :=
  kitAny_cons h1 (fun _ => kitAny_cons h2 (fun _ => kitAny_cons h3 (fun _ => kitAny_cons h4 (fun _ => kitAny_nil) (fun z => nomatch z)) (fun z => nomatch z)) (fun z => nomatch z)) (fun z => nomatch z)
theorem all_mk {l : PySem.W.OpenLaw} {w : World} {K : PySem.W.Frag} {h : Heap} {mg : Str → Option Value} {fa : Addr} (X : K.In h) (G : h.Ns mainGlobals mg) (hfa : mg "law" = some (.ref fa))
    {f1 f2 f3 f4 f5 f6 f7 f8 f9 f10 f11 f12 f13 f14 f15 f16 f17 f18 f19 f20 f21 f22 CT CU CN CS CB CL : Addr}
    {t1 t2 t3 : Tok}
    {od1 an1 od2 an2 od3 an3 od4 an4 od5 an5 od6 an6 od7 an7 od8 an8 od9 an9 od10 an10 od11 an11 od12 an12 od13 an13 od14 an14 od15 an15 od16 an16 od17 an17 od18 an18 od19 an19 od20 an20 od21 an21 od22 an22 : Option Addr}
    {sl1 sl2 sl3 sl4 sl5 sl6 sl7 sl8 sl9 sl10 sl11 sl12 sl13 sl14 sl15 sl16 sl17 sl18 sl19 sl20 sl21 sl22 : Array (Option Value)}
    {oc1 kV1 dc1 pm1 cd1 ct1 oc2 kV2 dc2 pm2 cd2 ct2 oc3 kV3 dc3 pm3 cd3 ct3 oc4 kV4 dc4 pm4 cd4 ct4 oc5 kV5 dc5 pm5 cd5 ct5 oc6 kV6 dc6 pm6 cd6 ct6 oc7 kV7 dc7 pm7 cd7 ct7 oc8 kV8 dc8 pm8 cd8 ct8 oc9 kV9 dc9 pm9 cd9 ct9 oc10 kV10 dc10 pm10 cd10 ct10 oc11 kV11 dc11 pm11 cd11 ct11 oc12 kV12 dc12 pm12 cd12 ct12 oc13 kV13 dc13 pm13 cd13 ct13 oc14 kV14 dc14 pm14 cd14 ct14 oc15 kV15 dc15 pm15 cd15 ct15 oc16 kV16 dc16 pm16 cd16 ct16 oc17 kV17 dc17 pm17 cd17 ct17 oc18 kV18 dc18 pm18 cd18 ct18 oc19 kV19 dc19 pm19 cd19 ct19 oc20 kV20 dc20 pm20 cd20 ct20 oc21 kV21 dc21 pm21 cd21 ct21 oc22 kV22 dc22 pm22 cd22 ct22 : Value}
    (a1 : PySem.W.nsIn K mainGlobals "wrapped" = some (some (.ref f1)))
    (l1 : K.lookup f1 = some ⟨oc1, od1, .func (PySem.W.fnOf "wrapped" "wrapped" (defArgs sWrapped) (defBody sWrapped) (defScope sWrapped) .none kV1 dc1 pm1 an1 cd1 ct1), sl1⟩)
    (c1 : PySem.W.codeIn K cd1 "wrapped" = true)
    (k1 : PySem.W.keepIn K (.ref f1) = true)
    (a2 : PySem.W.nsIn K mainGlobals "amount" = some (some (.ref f2)))
    (l2 : K.lookup f2 = some ⟨oc2, od2, .func (PySem.W.fnOf "amount" "amount" (defArgs sAmount) (defBody sAmount) (defScope sAmount) .none kV2 dc2 pm2 an2 cd2 ct2), sl2⟩)
    (c2 : PySem.W.codeIn K cd2 "amount" = true)
    (k2 : PySem.W.keepIn K (.ref f2) = true)
    (a3 : PySem.W.nsIn K mainGlobals "breadth" = some (some (.ref f3)))
    (l3 : K.lookup f3 = some ⟨oc3, od3, .func (PySem.W.fnOf "breadth" "breadth" (defArgs sBreadth) (defBody sBreadth) (defScope sBreadth) .none kV3 dc3 pm3 an3 cd3 ct3), sl3⟩)
    (c3 : PySem.W.codeIn K cd3 "breadth" = true)
    (k3 : PySem.W.keepIn K (.ref f3) = true)
    (a4 : PySem.W.nsIn K mainGlobals "allowed" = some (some (.ref f4)))
    (l4 : K.lookup f4 = some ⟨oc4, od4, .func (PySem.W.fnOf "allowed" "allowed" (defArgs sAllowed) (defBody sAllowed) (defScope sAllowed) .none kV4 dc4 pm4 an4 cd4 ct4), sl4⟩)
    (c4 : PySem.W.codeIn K cd4 "allowed" = true)
    (k4 : PySem.W.keepIn K (.ref f4) = true)
    (a5 : PySem.W.nsIn K mainGlobals "place_of" = some (some (.ref f5)))
    (l5 : K.lookup f5 = some ⟨oc5, od5, .func (PySem.W.fnOf "place_of" "place_of" (defArgs sPlaceOf) (defBody sPlaceOf) (defScope sPlaceOf) .none kV5 dc5 pm5 an5 cd5 ct5), sl5⟩)
    (c5 : PySem.W.codeIn K cd5 "place_of" = true)
    (k5 : PySem.W.keepIn K (.ref f5) = true)
    (a6 : PySem.W.nsIn K mainGlobals "at_of" = some (some (.ref f6)))
    (l6 : K.lookup f6 = some ⟨oc6, od6, .func (PySem.W.fnOf "at_of" "at_of" (defArgs sAtOf) (defBody sAtOf) (defScope sAtOf) .none kV6 dc6 pm6 an6 cd6 ct6), sl6⟩)
    (c6 : PySem.W.codeIn K cd6 "at_of" = true)
    (k6 : PySem.W.keepIn K (.ref f6) = true)
    (a7 : PySem.W.nsIn K mainGlobals "all_at" = some (some (.ref f7)))
    (l7 : K.lookup f7 = some ⟨oc7, od7, .func (PySem.W.fnOf "all_at" "all_at" (defArgs sAllAt) (defBody sAllAt) (defScope sAllAt) .none kV7 dc7 pm7 an7 cd7 ct7), sl7⟩)
    (c7 : PySem.W.codeIn K cd7 "all_at" = true)
    (k7 : PySem.W.keepIn K (.ref f7) = true)
    (a8 : PySem.W.nsIn K mainGlobals "table_of" = some (some (.ref f8)))
    (l8 : K.lookup f8 = some ⟨oc8, od8, .func (PySem.W.fnOf "table_of" "table_of" (defArgs sTableOf) (defBody sTableOf) (defScope sTableOf) .none kV8 dc8 pm8 an8 cd8 ct8), sl8⟩)
    (c8 : PySem.W.codeIn K cd8 "table_of" = true)
    (k8 : PySem.W.keepIn K (.ref f8) = true)
    (a9 : PySem.W.nsIn K mainGlobals "alone" = some (some (.ref f9)))
    (l9 : K.lookup f9 = some ⟨oc9, od9, .func (PySem.W.fnOf "alone" "alone" (defArgs sAlone) (defBody sAlone) (defScope sAlone) .none kV9 dc9 pm9 an9 cd9 ct9), sl9⟩)
    (c9 : PySem.W.codeIn K cd9 "alone" = true)
    (k9 : PySem.W.keepIn K (.ref f9) = true)
    (a10 : PySem.W.nsIn K mainGlobals "cell_at" = some (some (.ref f10)))
    (l10 : K.lookup f10 = some ⟨oc10, od10, .func (PySem.W.fnOf "cell_at" "cell_at" (defArgs sCellAt) (defBody sCellAt) (defScope sCellAt) .none kV10 dc10 pm10 an10 cd10 ct10), sl10⟩)
    (c10 : PySem.W.codeIn K cd10 "cell_at" = true)
    (k10 : PySem.W.keepIn K (.ref f10) = true)
    (a11 : PySem.W.nsIn K mainGlobals "nested" = some (some (.ref f11)))
    (l11 : K.lookup f11 = some ⟨oc11, od11, .func (PySem.W.fnOf "nested" "nested" (defArgs sNested) (defBody sNested) (defScope sNested) .none kV11 dc11 pm11 an11 cd11 ct11), sl11⟩)
    (c11 : PySem.W.codeIn K cd11 "nested" = true)
    (k11 : PySem.W.keepIn K (.ref f11) = true)
    (a12 : PySem.W.nsIn K mainGlobals "_law_at" = some (some (.ref f12)))
    (l12 : K.lookup f12 = some ⟨oc12, od12, .func (PySem.W.fnOf "_law_at" "_law_at" (defArgs sLawAt) (defBody sLawAt) (defScope sLawAt) .none kV12 dc12 pm12 an12 cd12 ct12), sl12⟩)
    (c12 : PySem.W.codeIn K cd12 "_law_at" = true)
    (k12 : PySem.W.keepIn K (.ref f12) = true)
    (a13 : PySem.W.nsIn K mainGlobals "_law_held" = some (some (.ref f13)))
    (l13 : K.lookup f13 = some ⟨oc13, od13, .func (PySem.W.fnOf "_law_held" "_law_held" (defArgs sHeld) (defBody sHeld) (defScope sHeld) .none kV13 dc13 pm13 an13 cd13 ct13), sl13⟩)
    (c13 : PySem.W.codeIn K cd13 "_law_held" = true)
    (k13 : PySem.W.keepIn K (.ref f13) = true)
    (a14 : PySem.W.nsIn K mainGlobals "_law_sides" = some (some (.ref f14)))
    (l14 : K.lookup f14 = some ⟨oc14, od14, .func (PySem.W.fnOf "_law_sides" "_law_sides" (defArgs sSides) (defBody sSides) (defScope sSides) .none kV14 dc14 pm14 an14 cd14 ct14), sl14⟩)
    (c14 : PySem.W.codeIn K cd14 "_law_sides" = true)
    (k14 : PySem.W.keepIn K (.ref f14) = true)
    (a15 : PySem.W.nsIn K mainGlobals "_law_flat" = some (some (.ref f15)))
    (l15 : K.lookup f15 = some ⟨oc15, od15, .func (PySem.W.fnOf "_law_flat" "_law_flat" (defArgs sFlat) (defBody sFlat) (defScope sFlat) .none kV15 dc15 pm15 an15 cd15 ct15), sl15⟩)
    (c15 : PySem.W.codeIn K cd15 "_law_flat" = true)
    (k15 : PySem.W.keepIn K (.ref f15) = true)
    (a16 : PySem.W.nsIn K mainGlobals "_law_refusal" = some (some (.ref f16)))
    (l16 : K.lookup f16 = some ⟨oc16, od16, .func (PySem.W.fnOf "_law_refusal" "_law_refusal" (defArgs sRefusal) (defBody sRefusal) (defScope sRefusal) .none kV16 dc16 pm16 an16 cd16 ct16), sl16⟩)
    (c16 : PySem.W.codeIn K cd16 "_law_refusal" = true)
    (k16 : PySem.W.keepIn K (.ref f16) = true)
    (a17 : PySem.W.nsIn K mainGlobals "_law_no_cell" = some (some (.ref f17)))
    (l17 : K.lookup f17 = some ⟨oc17, od17, .func (PySem.W.fnOf "_law_no_cell" "_law_no_cell" (defArgs sNoCell) (defBody sNoCell) (defScope sNoCell) .none kV17 dc17 pm17 an17 cd17 ct17), sl17⟩)
    (c17 : PySem.W.codeIn K cd17 "_law_no_cell" = true)
    (k17 : PySem.W.keepIn K (.ref f17) = true)
    (a18 : PySem.W.nsIn K mainGlobals "_law_cells" = some (some (.ref f18)))
    (l18 : K.lookup f18 = some ⟨oc18, od18, .func (PySem.W.fnOf "_law_cells" "_law_cells" (defArgs sCells) (defBody sCells) (defScope sCells) .none kV18 dc18 pm18 an18 cd18 ct18), sl18⟩)
    (c18 : PySem.W.codeIn K cd18 "_law_cells" = true)
    (k18 : PySem.W.keepIn K (.ref f18) = true)
    (a19 : PySem.W.nsIn K mainGlobals "_law_strange" = some (some (.ref f19)))
    (l19 : K.lookup f19 = some ⟨oc19, od19, .func (PySem.W.fnOf "_law_strange" "_law_strange" (defArgs sStrange) (defBody sStrange) (defScope sStrange) .none kV19 dc19 pm19 an19 cd19 ct19), sl19⟩)
    (c19 : PySem.W.codeIn K cd19 "_law_strange" = true)
    (k19 : PySem.W.keepIn K (.ref f19) = true)
    (a20 : PySem.W.nsIn K mainGlobals "_law_count" = some (some (.ref f20)))
    (l20 : K.lookup f20 = some ⟨oc20, od20, .func (PySem.W.fnOf "_law_count" "_law_count" (defArgs sCount) (defBody sCount) (defScope sCount) .none kV20 dc20 pm20 an20 cd20 ct20), sl20⟩)
    (c20 : PySem.W.codeIn K cd20 "_law_count" = true)
    (k20 : PySem.W.keepIn K (.ref f20) = true)
    (a21 : PySem.W.nsIn K mainGlobals "_law_own_lists" = some (some (.ref f21)))
    (l21 : K.lookup f21 = some ⟨oc21, od21, .func (PySem.W.fnOf "_law_own_lists" "_law_own_lists" (defArgs sOwnLists) (defBody sOwnLists) (defScope sOwnLists) .none kV21 dc21 pm21 an21 cd21 ct21), sl21⟩)
    (c21 : PySem.W.codeIn K cd21 "_law_own_lists" = true)
    (k21 : PySem.W.keepIn K (.ref f21) = true)
    (a22 : PySem.W.nsIn K mainGlobals "law" = some (some (.ref f22)))
    (l22 : K.lookup f22 = some ⟨oc22, od22, .func (PySem.W.fnOf "law" "law" (defArgs sLaw) (defBody sLaw) (defScope sLaw) .none kV22 dc22 pm22 an22 cd22 ct22), sl22⟩)
    (c22 : PySem.W.codeIn K cd22 "law" = true)
    (k22 : PySem.W.keepIn K (.ref f22) = true)
    (eT : PySem.W.nsIn K mainGlobals "TooLarge" = some (some (.ref CT)))
    (tyT : PySem.W.typeIn K (.ref CT) = some (.type "type"))
    (isT : PySem.W.isClsIn K CT = true)
    (eU : PySem.W.nsIn K mainGlobals "Unlike" = some (some (.ref CU)))
    (tyU : PySem.W.typeIn K (.ref CU) = some (.type "type"))
    (isU : PySem.W.isClsIn K CU = true)
    (eN : PySem.W.nsIn K mainGlobals "NoPlace" = some (some (.ref CN)))
    (tyN : PySem.W.typeIn K (.ref CN) = some (.type "type"))
    (isN : PySem.W.isClsIn K CN = true)
    (eS : PySem.W.nsIn K mainGlobals "NoSide" = some (some (.ref CS)))
    (tyS : PySem.W.typeIn K (.ref CS) = some (.type "type"))
    (isS : PySem.W.isClsIn K CS = true)
    (eB : PySem.W.nsIn K mainGlobals "Beyond" = some (some (.ref CB)))
    (tyB : PySem.W.typeIn K (.ref CB) = some (.type "type"))
    (isB : PySem.W.isClsIn K CB = true)
    (eL : PySem.W.nsIn K mainGlobals "LoomError" = some (some (.ref CL)))
    (tyL : PySem.W.typeIn K (.ref CL) = some (.type "type"))
    (isL : PySem.W.isClsIn K CL = true)
    (xT : PySem.W.excIn K CT [.type "ValueError", .type "Exception", .type "BaseException", .type "object"] "ValueError.__new__" = true)
    (kpT : PySem.W.keepIn K (.ref CT) = true)
    (bT : PySem.W.subIn K (.ref CT) (.type "BaseException") = some true)
    (hdT : PySem.W.hasDictIn K CT = true)
    (xU : PySem.W.excIn K CU [.type "ValueError", .type "Exception", .type "BaseException", .type "object"] "ValueError.__new__" = true)
    (kpU : PySem.W.keepIn K (.ref CU) = true)
    (bU : PySem.W.subIn K (.ref CU) (.type "BaseException") = some true)
    (hdU : PySem.W.hasDictIn K CU = true)
    (xN : PySem.W.excIn K CN [.type "ValueError", .type "Exception", .type "BaseException", .type "object"] "ValueError.__new__" = true)
    (kpN : PySem.W.keepIn K (.ref CN) = true)
    (bN : PySem.W.subIn K (.ref CN) (.type "BaseException") = some true)
    (hdN : PySem.W.hasDictIn K CN = true)
    (gaT : PySem.W.findIn K (.ref CT) "__getattribute__" = some (some (.builtin "BaseException.__getattribute__")))
    (ggT : PySem.W.findIn K (.ref CT) "__getattr__" = some none)
    (gcT : PySem.W.findIn K (.ref CT) "__class__" = some (some (.builtin "object.__class__")))
    (obT : PySem.W.mroIn K CT (.type "object") = some true)
    (gaU : PySem.W.findIn K (.ref CU) "__getattribute__" = some (some (.builtin "BaseException.__getattribute__")))
    (ggU : PySem.W.findIn K (.ref CU) "__getattr__" = some none)
    (gcU : PySem.W.findIn K (.ref CU) "__class__" = some (some (.builtin "object.__class__")))
    (obU : PySem.W.mroIn K CU (.type "object") = some true)
    (sg : PySem.W.specialIn K (.builtin "object.__class__") "__get__" = some (some (.builtin "getset_descriptor.__get__")))
    (tk : PySem.W.takesIn K (.builtin "object.__class__") = some true)
    (sTT : PySem.W.subIn K (.ref CT) (.ref CT) = some true)
    (sUT : PySem.W.subIn K (.ref CU) (.ref CT) = some false)
    (nUT : (Value.ref CU == Value.ref CT) = false)
    (sUU : PySem.W.subIn K (.ref CU) (.ref CU) = some true)
    (sNN : PySem.W.subIn K (.ref CN) (.ref CN) = some true)
    (sTU : PySem.W.subIn K (.ref CT) (.ref CU) = some false)
    (nTU : (Value.ref CT == Value.ref CU) = false)
    (sTN : PySem.W.subIn K (.ref CT) (.ref CN) = some false)
    (nTN : (Value.ref CT == Value.ref CN) = false)
    (sTS : PySem.W.subIn K (.ref CT) (.ref CS) = some false)
    (nTS : (Value.ref CT == Value.ref CS) = false)
    (sTB : PySem.W.subIn K (.ref CT) (.ref CB) = some false)
    (nTB : (Value.ref CT == Value.ref CB) = false)
    (sUN : PySem.W.subIn K (.ref CU) (.ref CN) = some false)
    (nUN : (Value.ref CU == Value.ref CN) = false)
    (sUS : PySem.W.subIn K (.ref CU) (.ref CS) = some false)
    (nUS : (Value.ref CU == Value.ref CS) = false)
    (sUB : PySem.W.subIn K (.ref CU) (.ref CB) = some false)
    (nUB : (Value.ref CU == Value.ref CB) = false)
    (sTL : PySem.W.subIn K (.ref CT) (.ref CL) = some true)
    (nTL : (Value.ref CT == Value.ref CL) = false)
    (sUL : PySem.W.subIn K (.ref CU) (.ref CL) = some true)
    (nUL : (Value.ref CU == Value.ref CL) = false)
    (g1 : PySem.W.nsIn K mainGlobals "LOW" = some (some (.int lowV t1)))
    (g2 : PySem.W.nsIn K mainGlobals "MOST_SIDES" = some (some (.int 6 t2)))
    (g3 : PySem.W.nsIn K mainGlobals "MOST_BREADTH" = some (some (.int 512 t3)))
    (z_len : PySem.W.nsIn K mainGlobals "len" = some none)
    (z_max : PySem.W.nsIn K mainGlobals "max" = some none)
    (z_range : PySem.W.nsIn K mainGlobals "range" = some none)
    (z_tuple : PySem.W.nsIn K mainGlobals "tuple" = some none)
    (z_list : PySem.W.nsIn K mainGlobals "list" = some none)
    (z_isinstance : PySem.W.nsIn K mainGlobals "isinstance" = some none)
    (z_int : PySem.W.nsIn K mainGlobals "int" = some none)
    (z_bool : PySem.W.nsIn K mainGlobals "bool" = some none)
    (z_zip : PySem.W.nsIn K mainGlobals "zip" = some none)
    (z_reversed : PySem.W.nsIn K mainGlobals "reversed" = some none)
    (z_str : PySem.W.nsIn K mainGlobals "str" = some none)
    (z_sum : PySem.W.nsIn K mainGlobals "sum" = some none)
    : ∃ fd : FuncData, (∀ (s : Shared) (v : Value), BindsTo s fd ⟨[v], []⟩ [("script", v)]) ∧ ∀ base : Heap, K.In base → base.Ns mainGlobals mg → FnOk l.prog w K mg base CX0 11 fa fd ["script"] (spLaw K) := by
  have e := hfa.symm.trans (PySem.W.mg_of X G a22)
  cases e
  have F1 := fun_mk (st := sWrapped) l1 c1 k1
  have m1 := PySem.W.mg_of X G a1
  have b1 := F1.binds (ps := ["n"]) fun _ _ _ _ _ _ us hl => match us, hl with | [_], _ => rfl
  have F2 := fun_mk (st := sAmount) l2 c2 k2
  have m2 := PySem.W.mg_of X G a2
  have b2 := F2.binds (ps := ["sides"]) fun _ _ _ _ _ _ us hl => match us, hl with | [_], _ => rfl
  have F3 := fun_mk (st := sBreadth) l3 c3 k3
  have m3 := PySem.W.mg_of X G a3
  have b3 := F3.binds (ps := ["sides"]) fun _ _ _ _ _ _ us hl => match us, hl with | [_], _ => rfl
  have F4 := fun_mk (st := sAllowed) l4 c4 k4
  have m4 := PySem.W.mg_of X G a4
  have b4 := F4.binds (ps := ["sides"]) fun _ _ _ _ _ _ us hl => match us, hl with | [_], _ => rfl
  have F5 := fun_mk (st := sPlaceOf) l5 c5 k5
  have m5 := PySem.W.mg_of X G a5
  have b5 := F5.binds (ps := ["sides", "at"]) fun _ _ _ _ _ _ us hl => match us, hl with | [_, _], _ => rfl
  have F6 := fun_mk (st := sAtOf) l6 c6 k6
  have m6 := PySem.W.mg_of X G a6
  have b6 := F6.binds (ps := ["sides", "place"]) fun _ _ _ _ _ _ us hl => match us, hl with | [_, _], _ => rfl
  have F7 := fun_mk (st := sAllAt) l7 c7 k7
  have m7 := PySem.W.mg_of X G a7
  have b7 := F7.binds (ps := ["sides"]) fun _ _ _ _ _ _ us hl => match us, hl with | [_], _ => rfl
  have F8 := fun_mk (st := sTableOf) l8 c8 k8
  have m8 := PySem.W.mg_of X G a8
  have b8 := F8.binds (ps := ["sides", "cells"]) fun _ _ _ _ _ _ us hl => match us, hl with | [_, _], _ => rfl
  have F9 := fun_mk (st := sAlone) l9 c9 k9
  have m9 := PySem.W.mg_of X G a9
  have b9 := F9.binds (ps := ["n"]) fun _ _ _ _ _ _ us hl => match us, hl with | [_], _ => rfl
  have F10 := fun_mk (st := sCellAt) l10 c10 k10
  have m10 := PySem.W.mg_of X G a10
  have b10 := F10.binds (ps := ["tab", "at"]) fun _ _ _ _ _ _ us hl => match us, hl with | [_, _], _ => rfl
  have F11 := fun_mk (st := sNested) l11 c11 k11
  have m11 := PySem.W.mg_of X G a11
  have b11 := F11.binds (ps := ["tab"]) fun _ _ _ _ _ _ us hl => match us, hl with | [_], _ => rfl
  have F12 := fun_mk (st := sLawAt) l12 c12 k12
  have m12 := PySem.W.mg_of X G a12
  have b12 := F12.binds (ps := ["script", "k"]) fun _ _ _ _ _ _ us hl => match us, hl with | [_, _], _ => rfl
  have F13 := fun_mk (st := sHeld) l13 c13 k13
  have m13 := PySem.W.mg_of X G a13
  have b13 := F13.binds (ps := ["found", "due"]) fun _ _ _ _ _ _ us hl => match us, hl with | [_, _], _ => rfl
  have F14 := fun_mk (st := sSides) l14 c14 k14
  have m14 := PySem.W.mg_of X G a14
  have b14 := F14.binds (ps := ["script"]) fun _ _ _ _ _ _ us hl => match us, hl with | [_], _ => rfl
  have F15 := fun_mk (st := sFlat) l15 c15 k15
  have m15 := PySem.W.mg_of X G a15
  have b15 := F15.binds (ps := ["thing", "sides"]) fun _ _ _ _ _ _ us hl => match us, hl with | [_, _], _ => rfl
  have F16 := fun_mk (st := sRefusal) l16 c16 k16
  have m16 := PySem.W.mg_of X G a16
  have b16 := F16.binds (ps := ["sides", "cells"]) fun _ _ _ _ _ _ us hl => match us, hl with | [_, _], _ => rfl
  have F17 := fun_mk (st := sNoCell) l17 c17 k17
  have m17 := PySem.W.mg_of X G a17
  have b17 := F17.binds (ps := ["tab", "at"]) fun _ _ _ _ _ _ us hl => match us, hl with | [_, _], _ => rfl
  have F18 := fun_mk (st := sCells) l18 c18 k18
  have m18 := PySem.W.mg_of X G a18
  have b18 := F18.binds (ps := ["tab", "sides", "cells"]) fun _ _ _ _ _ _ us hl => match us, hl with | [_, _, _], _ => rfl
  have F19 := fun_mk (st := sStrange) l19 c19 k19
  have m19 := PySem.W.mg_of X G a19
  have b19 := F19.binds (ps := ["tab", "sides", "drawn"]) fun _ _ _ _ _ _ us hl => match us, hl with | [_, _, _], _ => rfl
  have F20 := fun_mk (st := sCount) l20 c20 k20
  have m20 := PySem.W.mg_of X G a20
  have b20 := F20.binds (ps := ["thing"]) fun _ _ _ _ _ _ us hl => match us, hl with | [_], _ => rfl
  have F21 := fun_mk (st := sOwnLists) l21 c21 k21
  have m21 := PySem.W.mg_of X G a21
  have b21 := F21.binds (ps := ["tab", "sides", "size"]) fun _ _ _ _ _ _ us hl => match us, hl with | [_, _, _], _ => rfl
  have F22 := fun_mk (st := sLaw) l22 c22 k22
  have m22 := PySem.W.mg_of X G a22
  have B : Blt mg := ⟨PySem.W.mg_none_of X G z_len, PySem.W.mg_none_of X G z_max, PySem.W.mg_none_of X G z_range, PySem.W.mg_none_of X G z_tuple, PySem.W.mg_none_of X G z_list, PySem.W.mg_none_of X G z_isinstance, PySem.W.mg_none_of X G z_int, PySem.W.mg_none_of X G z_bool, PySem.W.mg_none_of X G z_zip, PySem.W.mg_none_of X G z_reversed, PySem.W.mg_none_of X G z_str, PySem.W.mg_none_of X G z_sum⟩
  have TT : ErrT K mg "TooLarge" CT := ⟨PySem.W.mg_of X G eT, xT, kpT, bT, tyT⟩
  have TU : ErrT K mg "Unlike" CU := ⟨PySem.W.mg_of X G eU, xU, kpU, bU, tyU⟩
  have TN : ErrT K mg "NoPlace" CN := ⟨PySem.W.mg_of X G eN, xN, kpN, bN, tyN⟩
  have XT : ExcC K CT := ⟨gaT, ggT, bT, hdT, gcT, sg, tk, obT⟩
  have XU : ExcC K CU := ⟨gaU, ggU, bU, hdU, gcU, sg, tk, obU⟩
  have kT : PySem.W.kitAny K (.ref CT) [.ref CU, .ref CN, .ref CS, .ref CB] = some false := kit_no4 (kit_ref nTU isU tyU sTU) (kit_ref nTN isN tyN sTN) (kit_ref nTS isS tyS sTS) (kit_ref nTB isB tyB sTB)
  have kU : PySem.W.kitAny K (.ref CU) [.ref CT, .ref CN, .ref CS, .ref CB] = some false := kit_no4 (kit_ref nUT isT tyT sUT) (kit_ref nUN isN tyN sUN) (kit_ref nUS isS tyS sUS) (kit_ref nUB isB tyB sUB)
  have TE : Errs K mg CT CU CN CS CB CL := ⟨TT, TU, TN, PySem.W.mg_of X G eS, PySem.W.mg_of X G eB, PySem.W.mg_of X G eL, XT, XU, PySem.W.exm_ref bT hdT tyT sTT, PySem.W.exm_ref bT hdT tyT sUT, PySem.W.exm_ref bU hdU tyU sUU, PySem.W.exm_ref bN hdN tyN sNN, kT, kU, kit_ref nTL isL tyL sTL, kit_ref nUL isL tyL sUL⟩
  refine ⟨PySem.W.fnOf "law" "law" (defArgs sLaw) (defBody sLaw) (defScope sLaw) .none kV22 dc22 pm22 an22 cd22 ct22, fun s v => .of_eq rfl, fun base _ _ => ?_⟩
  have G1 : FnOk l.prog w K mg base CX0 1 f1 _ ["n"] spWrapped := ok_wrapped F1 (PySem.W.mg_of X G g1)
  have G2 : FnOk l.prog w K mg base CX0 1 f2 _ ["sides"] spAmount := ok_amount F2
  have G3 : FnOk l.prog w K mg base CX0 1 f3 _ ["sides"] spBreadth := ok_breadth F3 B.max
  have G4 : FnOk l.prog w K mg base (L2.CX l.prog w) 2 f4 _ ["sides"] (spAllowed CT) := ok_allowed F4 G3 b3 k3 m3 TT B.len (PySem.W.mg_of X G g2) (PySem.W.mg_of X G g3)
  have G5 : FnOk l.prog w K mg base (L2.CX l.prog w) 1 f5 _ ["sides", "at"] (spPlace CN) := ok_place F5 TN B.len B.zip
  have G6 : FnOk l.prog w K mg base CX0 2 f6 _ ["sides", "place"] spAtOf := ok_at F6 G2 b2 k2 m2 B.rev B.tuple
  have G7 : FnOk l.prog w K mg base CX0 3 f7 _ ["sides"] spAllAt := ok_allAt F7 G2 b2 k2 m2 G6 b6 k6 m6 B.range
  have G8 : FnOk l.prog w K mg base (L2.CX l.prog w) 3 f8 _ ["sides", "cells"] (spTable K CT CU) := ok_table F8 G4 b4 k4 m4 G2 b2 k2 m2 G1 b1 k1 m1 TU B.len B.tuple
  have G9 : FnOk l.prog w K mg base CX0 2 f9 _ ["n"] spAlone := ok_alone F9 G1 b1 k1 m1
  have G10 : FnOk l.prog w K mg base (L2.CX l.prog w) 2 f10 _ ["tab", "at"] (spCell CN) := ok_cell F10 G5 b5 k5 m5
  have G11 : FnOk l.prog w K mg base CX0 9 f11 _ ["tab"] (spNested 7) := all_nested F11 b11 m11 G2 b2 k2 m2 B.len B.range 7
  have G12 : FnOk l.prog w K mg base CX0 1 f12 _ ["script", "k"] (spLawAt K) := ok_lawAt F12 B.len
  have G13 : FnOk l.prog w K mg base CX0 1 f13 _ ["found", "due"] spHeld := ok_held F13 B.isi B.int B.bool
  have G14 : FnOk l.prog w K mg base CX0 2 f14 _ ["script"] (spSides K) := ok_sides F14 G12 b12 k12 m12 B.len B.range B.max B.tuple
  have G15 : FnOk l.prog w K mg base CX0 8 f15 _ ["thing", "sides"] (spFlat 7) := all_flat F15 b15 m15 B.len B.isi B.list 7
  have G16 : FnOk l.prog w K mg base CX0 4 f16 _ ["sides", "cells"] (spRefusal K) := ok_refusal F16 G8 b8 k8 m8 TE B.isi B.str
  have G17 : FnOk l.prog w K mg base CX0 3 f17 _ ["tab", "at"] spNoCell := ok_noCell F17 G10 b10 k10 m10 TE
  have G18 : FnOk l.prog w K mg base CX0 10 f18 _ ["tab", "sides", "cells"] spCells := ok_cells F18 B ⟨G7, b7, k7, m7⟩ ⟨G11, b11, k11, m11⟩ ⟨G15, b15, k15, m15⟩ ⟨G13, b13, k13, m13⟩ ⟨G10, b10, k10, m10⟩
  have G19 : FnOk l.prog w K mg base CX0 4 f19 _ ["tab", "sides", "drawn"] spStrange := ok_strange F19 B ⟨G17, b17, k17, m17⟩
  have G20 : FnOk l.prog w K mg base CX0 8 f20 _ ["thing"] (spCount 7) := all_count F20 b20 m20 B.isi B.list B.sum 7
  have G21 : FnOk l.prog w K mg base CX0 10 f21 _ ["tab", "sides", "size"] spOwn := ok_own F21 B ⟨G7, b7, k7, m7⟩ ⟨G11, b11, k11, m11⟩ ⟨G20, b20, k20, m20⟩
  exact ok_law F22 B ⟨G14, b14, k14, m14⟩ ⟨G12, b12, k12, m12⟩ ⟨G8, b8, k8, m8⟩ ⟨G18, b18, k18, m18⟩ ⟨G19, b19, k19, m19⟩ ⟨G21, b21, k21, m21⟩ ⟨G9, b9, k9, m9⟩ ⟨G13, b13, k13, m13⟩ ⟨G11, b11, k11, m11⟩ ⟨G16, b16, k16, m16⟩
end K9
open PySem PySem.W PyProof.Rows
set_option maxRecDepth 100000 in
set_option maxHeartbeats 0 in
theorem PySem.Challenge.cw_sideloom_k09_whole_tables_holds : PySem.Challenge.rw_sideloom_k09_whole_tables.Holds := by
  w_on; o_law; k_head; (case hw => w_witness2)
  k_fill
  refine L2.walk_of (l := PySem.Challenge.rw_sideloom_k09_whole_tables) (n := 63) (k := 11) (x := "script") (CX := fun _ => L2.CX0) (sp := fun w => K9.spLaw _) rfl (by decide) rfl ⟨rfl, by decide, by decide⟩ (fun w h Y => PySem.W.kIn_of Y) ?F (fun _ _ a ns hl _ hS => ⟨a, ns, rfl, hS, hl, fun _ => rfl⟩) (fun _ _ _ _ _ z => z)
  case F =>
    intro w mg fa h KX G hmg
    refine' K9.all_mk KX G hmg ?a1 ?l1 ?c1 ?k1 ?a2 ?l2 ?c2 ?k2 ?a3 ?l3 ?c3 ?k3 ?a4 ?l4 ?c4 ?k4 ?a5 ?l5 ?c5 ?k5 ?a6 ?l6 ?c6 ?k6 ?a7 ?l7 ?c7 ?k7 ?a8 ?l8 ?c8 ?k8 ?a9 ?l9 ?c9 ?k9 ?a10 ?l10 ?c10 ?k10 ?a11 ?l11 ?c11 ?k11 ?a12 ?l12 ?c12 ?k12 ?a13 ?l13 ?c13 ?k13 ?a14 ?l14 ?c14 ?k14 ?a15 ?l15 ?c15 ?k15 ?a16 ?l16 ?c16 ?k16 ?a17 ?l17 ?c17 ?k17 ?a18 ?l18 ?c18 ?k18 ?a19 ?l19 ?c19 ?k19 ?a20 ?l20 ?c20 ?k20 ?a21 ?l21 ?c21 ?k21 ?a22 ?l22 ?c22 ?k22 ?eT ?tyT ?isT ?eU ?tyU ?isU ?eN ?tyN ?isN ?eS ?tyS ?isS ?eB ?tyB ?isB ?eL ?tyL ?isL ?xT ?kpT ?bT ?hdT ?xU ?kpU ?bU ?hdU ?xN ?kpN ?bN ?hdN ?gaT ?ggT ?gcT ?obT ?gaU ?ggU ?gcU ?obU ?sg ?tk ?sTT ?sUT ?nUT ?sUU ?sNN ?sTU ?nTU ?sTN ?nTN ?sTS ?nTS ?sTB ?nTB ?sUN ?nUN ?sUS ?nUS ?sUB ?nUB ?sTL ?nTL ?sUL ?nUL ?g1 ?g2 ?g3 ?z_len ?z_max ?z_range ?z_tuple ?z_list ?z_isinstance ?z_int ?z_bool ?z_zip ?z_reversed ?z_str ?z_sum
    (case a1 => k_is)
    (case l1 => k_is)
    (case c1 => k_is)
    (case k1 => k_is)
    (case a2 => k_is)
    (case l2 => k_is)
    (case c2 => k_is)
    (case k2 => k_is)
    (case a3 => k_is)
    (case l3 => k_is)
    (case c3 => k_is)
    (case k3 => k_is)
    (case a4 => k_is)
    (case l4 => k_is)
    (case c4 => k_is)
    (case k4 => k_is)
    (case a5 => k_is)
    (case l5 => k_is)
    (case c5 => k_is)
    (case k5 => k_is)
    (case a6 => k_is)
    (case l6 => k_is)
    (case c6 => k_is)
    (case k6 => k_is)
    (case a7 => k_is)
    (case l7 => k_is)
    (case c7 => k_is)
    (case k7 => k_is)
    (case a8 => k_is)
    (case l8 => k_is)
    (case c8 => k_is)
    (case k8 => k_is)
    (case a9 => k_is)
    (case l9 => k_is)
    (case c9 => k_is)
    (case k9 => k_is)
    (case a10 => k_is)
    (case l10 => k_is)
    (case c10 => k_is)
    (case k10 => k_is)
    (case a11 => k_is)
    (case l11 => k_is)
    (case c11 => k_is)
    (case k11 => k_is)
    (case a12 => k_is)
    (case l12 => k_is)
    (case c12 => k_is)
    (case k12 => k_is)
    (case a13 => k_is)
    (case l13 => k_is)
    (case c13 => k_is)
    (case k13 => k_is)
    (case a14 => k_is)
    (case l14 => k_is)
    (case c14 => k_is)
    (case k14 => k_is)
    (case a15 => k_is)
    (case l15 => k_is)
    (case c15 => k_is)
    (case k15 => k_is)
    (case a16 => k_is)
    (case l16 => k_is)
    (case c16 => k_is)
    (case k16 => k_is)
    (case a17 => k_is)
    (case l17 => k_is)
    (case c17 => k_is)
    (case k17 => k_is)
    (case a18 => k_is)
    (case l18 => k_is)
    (case c18 => k_is)
    (case k18 => k_is)
    (case a19 => k_is)
    (case l19 => k_is)
    (case c19 => k_is)
    (case k19 => k_is)
    (case a20 => k_is)
    (case l20 => k_is)
    (case c20 => k_is)
    (case k20 => k_is)
    (case a21 => k_is)
    (case l21 => k_is)
    (case c21 => k_is)
    (case k21 => k_is)
    (case a22 => k_is)
    (case l22 => k_is)
    (case c22 => k_is)
    (case k22 => k_is)
    (case eT => k_is)
    (case tyT => k_is)
    (case isT => k_is)
    (case eU => k_is)
    (case tyU => k_is)
    (case isU => k_is)
    (case eN => k_is)
    (case tyN => k_is)
    (case isN => k_is)
    (case eS => k_is)
    (case tyS => k_is)
    (case isS => k_is)
    (case eB => k_is)
    (case tyB => k_is)
    (case isB => k_is)
    (case eL => k_is)
    (case tyL => k_is)
    (case isL => k_is)
    (case xT => k_exc)
    (case kpT => k_is)
    (case bT => k_is)
    (case hdT => k_is)
    (case xU => k_exc)
    (case kpU => k_is)
    (case bU => k_is)
    (case hdU => k_is)
    (case xN => k_exc)
    (case kpN => k_is)
    (case bN => k_is)
    (case hdN => k_is)
    (case gaT => k_is)
    (case ggT => k_is)
    (case gcT => k_is)
    (case obT => k_is)
    (case gaU => k_is)
    (case ggU => k_is)
    (case gcU => k_is)
    (case obU => k_is)
    (case sg => k_is)
    (case tk => k_is)
    (case sTT => k_is)
    (case sUT => k_is)
    (case nUT => rfl)
    (case sUU => k_is)
    (case sNN => k_is)
    (case sTU => k_is)
    (case nTU => rfl)
    (case sTN => k_is)
    (case nTN => rfl)
    (case sTS => k_is)
    (case nTS => rfl)
    (case sTB => k_is)
    (case nTB => rfl)
    (case sUN => k_is)
    (case nUN => rfl)
    (case sUS => k_is)
    (case nUS => rfl)
    (case sUB => k_is)
    (case nUB => rfl)
    (case sTL => k_is)
    (case nTL => rfl)
    (case sUL => k_is)
    (case nUL => rfl)
    (case g1 => k_is)
    (case g2 => k_is)
    (case g3 => k_is)
    (case z_len => k_is)
    (case z_max => k_is)
    (case z_range => k_is)
    (case z_tuple => k_is)
    (case z_list => k_is)
    (case z_isinstance => k_is)
    (case z_int => k_is)
    (case z_bool => k_is)
    (case z_zip => k_is)
    (case z_reversed => k_is)
    (case z_str => k_is)
    (case z_sum => k_is)
