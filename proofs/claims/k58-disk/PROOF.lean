import PyProof.Rows.All
import Wide.All
import OpenK.AllK
import Wide.FinOn
import HandS.ForMost
import HandS.ForExc
import HandS.IsInst
import HandS.ExcIs
import HandS.Style
import HandS.Flow
import HandS.Wide
import PySem.Challenge.RW_hushlink_k58_disk_by_a_model
set_option Elab.async false
set_option linter.all false
set_option maxRecDepth 100000
set_option maxHeartbeats 4000000
namespace Hk
open PySem PySem.Spec PyProof.Rows L2

/-! ## module names -/
def GV (mg : Str → Option Value) (x : Str) (v : V) : Prop := ∃ u, mg x = some u ∧ RelV v u
theorem gv_ref {mg : Str → Option Value} {x : Str} {a : Addr} (h : mg x = some (.ref a)) : GV mg x (.ref a) := ⟨_, h, rfl⟩
theorem gv_int {mg : Str → Option Value} {x : Str} {i : Int} {t : Tok} (h : mg x = some (.int i t)) : GV mg x (.int i) := ⟨_, h, ⟨_, rfl⟩⟩
theorem gv_str {mg : Str → Option Value} {x : Str} {i : Str} {t : Tok} (h : mg x = some (.str i t)) : GV mg x (.str i) := ⟨_, h, ⟨_, rfl⟩⟩
theorem pe_globV {X : Cx} {x : Str} {v : V} {pos : Pos} (h : GV X.mg x v) (hg : Gl X x := by rfl) (hd : (x == ("__debug__" : Str)) = false := by decide) : PE X (.Name x pos) (tC v) := by
  obtain ⟨u, hm, r⟩ := h
  exact pe_glob hg hm r hd

/-! ## calls of own defs: the address stays hidden -/
def GF (P : Program) (w : World) (K : PySem.W.Frag) (mg : Str → Option Value) (base : Heap) (x : Str) (k : Nat) (ps : List Str) (sp : Sp) : Prop :=
  ∃ (f : Addr) (fd : FuncData), mg x = some (.ref f) ∧ PySem.W.keepIn K (.ref f) = true ∧ Binds K fd ps [] ∧ FnOk P w K mg base (L2.CX P w) k f fd ps sp
def GM (P : Program) (w : World) (K : PySem.W.Frag) (mg : Str → Option Value) (base : Heap) (C : Addr) (m : Str) (k : Nat) (ps : List Str) (sp : Sp) : Prop :=
  ∃ (f : Addr) (fd : FuncData), Meth K C m f ∧ Binds K fd ps [] ∧ FnOk P w K mg base (L2.CX P w) k f fd ps sp
def GC (P : Program) (w : World) (K : PySem.W.Frag) (mg : Str → Option Value) (base : Heap) (x : Str) (C : Addr) (k : Nat) (ps : List Str) (sp : Sp) : Prop :=
  mg x = some (.ref C) ∧ ∃ (f : Addr) (fd : FuncData), Mk K C f ∧ Binds K fd ps [] ∧ FnOk P w K mg base (L2.CX P w) k f fd ps sp

section
variable {X : Cx} {k : Nat} {f C : Addr} {fd : FuncData} {ps : List Str} {sp : Sp} {W : WX} {x m : Str} {p pos apos : Pos} {e o : Expr} {es : List Expr} {ta : TE} {t : TA}
theorem pe_callG (G : GF X.prog X.w X.K X.mg X.base x k ps sp) (hr : Room k X.A) (tk : Takes X W) (ha : PA X (e :: es) t) (hg : Gl X x := by rfl) (hdb : (x == ("__debug__" : Str)) = false := by decide)
    (he : starEach (e :: es) X.env = (false, eval e X.env) :: starEach es X.env := by rfl) (hpl : (backTo pos (starEach es X.env)).any (·.1) = false := by rfl) : PE X (.Call (.Name x p) (e :: es) [] pos) (tCallS sp (WE W) t) := by
  obtain ⟨f, fd, hm, hk, hb, F⟩ := G
  exact pe_callS F hr hg hm hk hb (fun σ => passAt tk σ) ha hdb he hpl
theorem pe_callG0 (G : GF X.prog X.w X.K X.mg X.base x k ps sp) (hr : Room k X.A) (tk : Takes X W) (hg : Gl X x := by rfl) (hdb : (x == ("__debug__" : Str)) = false := by decide) : PE X (.Call (.Name x p) [] [] pos) (tCallS sp (WE W) tNil) := by
  obtain ⟨f, fd, hm, hk, hb, F⟩ := G
  refine ⟨fun pins s σ H Q I h => ?_⟩
  refine wpAny_Call_Name_kw (ld_glob I hg hm ?_ hdb)
  exact PySem.W.callWith_K0 I.kIn hk (run_fnS (us := []) F hr hb (passAt tk σ) I .nil h)
/-- o.m(..): the object, its class, then the arguments, then the promise -/
def tMethU (C : Addr) (m : Str) (sp : Sp) (E : L2.St → XK) (ta : TE) (t : TA) : TE := fun σ H Q => ta σ H fun x H1 => ∃ a dx fs, x = .ref a ∧ H1 a = some (.ins C dx fs) ∧ fs.lookup m = none ∧ t σ H1 fun vs H2 => sp (x :: vs) H2 Q (E σ)
theorem pe_methG {pl : Sem Bool} (he : PE X o ta) (c : Cls X.K C) (G : GM X.prog X.w X.K X.mg X.base C m k ps sp) (hr : Room k X.A) (tk : Takes X W) (ha : PA X (e :: es) t)
    (hst : starEach (e :: es) X.env = (false, eval e X.env) :: starEach es X.env := by rfl) (hpl : (backTo pos (starEach es X.env)).any (·.1) = false := by rfl)
    (ht : eval (.Call (.Attribute o m apos) (e :: es) [] pos) X.env = (do
      let ov ← eval o X.env
      standAt apos.atName
      let (f, first) ← holding [ov] (getMethod ov m pl)
      callWith pos f first (backTo pos (starEach (e :: es) X.env)) (backToKw pos (keywordEach [] X.env))) := by rfl) :
    PE X (.Call (.Attribute o m apos) (e :: es) [] pos) (tMethU C m sp (WE W) ta t) := by
  obtain ⟨f, fd, hm, hb, F⟩ := G
  refine ⟨fun pins s σ H Q I h => ?_⟩
  refine PySem.W.methodCall_KW (pl := pl) (thn (he.run pins s σ H _ I h) fun u s1 ⟨x, H1, I1, rx, a, dx, fs, ex, ea, l, q⟩ => ?_) ht
  subst ex
  obtain rfl : u = Value.ref a := rx
  refine getmeth_ok I1 ea c hm l ?_
  refine PySem.W.callWith_K (first := [.ref a]) (h₀ := X.base) I.ok.mod.kin hm.kp (thn (ha.run pos pins s1 σ H1 _ I1 q) fun us s2 ⟨vs, H2, I2, r, q2⟩ => ⟨I2.kIn, ?_⟩) hst hpl
  exact run_fnS (us := .ref a :: us) (vs := .ref a :: vs) F hr hb (passAt tk σ) I2 (.cons rfl r) q2
theorem pe_methG0 {pl : Sem Bool} (he : PE X o ta) (c : Cls X.K C) (G : GM X.prog X.w X.K X.mg X.base C m k ps sp) (hr : Room k X.A) (tk : Takes X W)
    (ht : eval (.Call (.Attribute o m apos) [] [] pos) X.env = (do
      let ov ← eval o X.env
      standAt apos.atName
      let (f, first) ← holding [ov] (getMethod ov m pl)
      callWith pos f first (backTo pos (starEach [] X.env)) (backToKw pos (keywordEach [] X.env))) := by rfl) :
    PE X (.Call (.Attribute o m apos) [] [] pos) (tMethU C m sp (WE W) ta tNil) := by
  obtain ⟨f, fd, hm, hb, F⟩ := G
  refine ⟨fun pins s σ H Q I h => ?_⟩
  refine PySem.W.methodCall_KW (pl := pl) (thn (he.run pins s σ H _ I h) fun u s1 ⟨x, H1, I1, rx, a, dx, fs, ex, ea, l, q⟩ => ?_) ht
  subst ex
  obtain rfl : u = Value.ref a := rx
  refine getmeth_ok I1 ea c hm l ?_
  exact PySem.W.callWith_K0 (first := [.ref a]) I1.kIn hm.kp (run_fnS (us := [.ref a]) (vs := [.ref a]) F hr hb (passAt tk σ) I1 (.cons rfl .nil) q)

/-- the making of an instance, what is raised wished for at the slots -/
theorem run_makeS {pins : List (Addr × Obj)} {σ : L2.St} {H : Hp} {s : Shared} {Q : VK} {us : List Value} {vs : List V} {E : L2.St → XK} (M : Mk X.K C f) (F : FnOk X.prog X.w X.K X.mg X.base (L2.CX X.prog X.w) k f fd ps sp) (hr : Room (k + 1) X.A) (hb : Binds X.K fd ps [])
    (hx : PassesAt (L2.CX X.prog X.w) X σ (E σ)) (I : Inv X pins σ H s) (r : Vals vs us)
    (h : ∀ x dx, H x = none → H dx = none → dx ≠ x → sp (.ref x :: vs) (upd (upd H dx (.own x)) x (.ins C dx [])) (fun v H2 => v = .non ∧ Q (.ref x) H2) (E σ)) :
    wpAny (model X.prog X.w) X.A (call (.ref C) us) (EP X pins σ Q) X.xe s := by
  have hq := h (s.heap.objs.size + 1) s.heap.objs.size (I.hok.fresh (Nat.le_succ _)) (I.hok.fresh (Nat.le_refl _)) (Nat.ne_of_lt (Nat.lt_succ_self _))
  have I2 := Inv.made (C := C) I
  have r2 : Vals (V.ref (s.heap.objs.size + 1) :: vs) (Value.ref (s.heap.objs.size + 1) :: us) := .cons rfl r
  have hl : (Value.ref (s.heap.objs.size + 1) :: us).length = ps.length := by
    have e := r2.length
    rw [F.len _ _ _ _ hq] at e
    exact e.symm
  have b := hb ⟨_, s.gens, s.drawn, s.toks, s.os⟩ (Value.ref (s.heap.objs.size + 1) :: us) I2.kIn (by rw [List.append_nil]; exact hl)
  rw [List.append_nil] at b
  refine wpAny_call (make_map (f := f) I.kIn M.makes M.init (beq_iff_eq.mp M.fn) (codeAny_mono (F.run _ X.stack _ _ ⟨Value.ref (s.heap.objs.size + 1) :: us, []⟩ (Value.ref (s.heap.objs.size + 1) :: us) _ _ (E σ) (hr.make C us [])
    (I2.env0.make C us []) b r2 hq) fun r s' hq' => ?_))
  cases r with
  | error e => exact hx pins _ _ e s' I2 hq'
  | ok fl =>
    cases fl with
    | ret u =>
      obtain ⟨v, H', I3, rv, ev, q3⟩ := I2.after hq'
      subst ev
      exact ⟨rv, ⟨V.ref (s.heap.objs.size + 1), H', I3, rfl, q3⟩⟩
    | next => exact False.elim hq'
    | brk => exact False.elim hq'
    | cont => exact False.elim hq'
def tMakeS (C : Addr) (sp : Sp) (E : L2.St → XK) (t : TA) : TE := fun σ H Q => t σ H fun vs H1 => ∀ x dx, H1 x = none → H1 dx = none → dx ≠ x →
  sp (.ref x :: vs) (upd (upd H1 dx (.own x)) x (.ins C dx [])) (fun v H2 => v = .non ∧ Q (.ref x) H2) (E σ)
theorem pe_makeG (G : GC X.prog X.w X.K X.mg X.base x C k ps sp) (hr : Room (k + 1) X.A) (tk : Takes X W) (ha : PA X (e :: es) t) (hg : Gl X x := by rfl) (hdb : (x == ("__debug__" : Str)) = false := by decide)
    (he : starEach (e :: es) X.env = (false, eval e X.env) :: starEach es X.env := by rfl) (hpl : (backTo pos (starEach es X.env)).any (·.1) = false := by rfl) : PE X (.Call (.Name x p) (e :: es) [] pos) (tMakeS C sp (WE W) t) := by
  obtain ⟨hm, f, fd, M, hb, F⟩ := G
  refine ⟨fun pins s σ H Q I h => ?_⟩
  refine wpAny_Call_Name_kw (ld_glob I hg hm ?_ hdb)
  refine PySem.W.callWith_K (h₀ := X.base) I.ok.mod.kin M.kp (thn (ha.run pos pins s σ H _ I h) fun us s1 ⟨vs, H1, I1, r, q⟩ => ⟨I1.kIn, ?_⟩) he hpl
  exact run_makeS M F hr hb (passAt tk σ) I1 r q
theorem pe_makeG0 (G : GC X.prog X.w X.K X.mg X.base x C k ps sp) (hr : Room (k + 1) X.A) (tk : Takes X W) (hg : Gl X x := by rfl) (hdb : (x == ("__debug__" : Str)) = false := by decide) :
    PE X (.Call (.Name x p) [] [] pos) (tMakeS C sp (WE W) tNil) := by
  obtain ⟨hm, f, fd, M, hb, F⟩ := G
  refine ⟨fun pins s σ H Q I h => ?_⟩
  refine wpAny_Call_Name_kw (ld_glob I hg hm ?_ hdb)
  exact PySem.W.callWith_K0 I.kIn M.kp (run_makeS (us := []) M F hr hb (passAt tk σ) I .nil h)
end
/-- isinstance of the error that the suite holds, whatever its class -/
def rIsE2 (K : PySem.W.Frag) (a : Addr) (cls : Value) (d : Option Addr) : List V → Hp → VK → Prop := fun xs H Q => ∃ D, cls = .ref D ∧ d = none ∧ ExcC K D ∧ rIsE K D a xs H Q
theorem call_isE2 {X : Cx} {a : Addr} {cls : Value} {d : Option Addr} {oe : Obj} {pn : List (Addr × Obj)} (hz : Zc cls d oe) (hf : ∃ vs, oe.data = .fields vs) : CallR (X.suite a ((a, oe) :: pn)) (.builtin "isinstance") (rIsE2 X.K a cls d) := by
  intro pins s σ H xs us Q I r h
  obtain ⟨D, rfl, rfl, C, h⟩ := h
  exact call_isE C hz hf pins s σ H xs us Q I r h

/-! ## the heap as a list of what is known -/
structure Wd (B : Hp) (L : List (Addr × HO)) (H : Hp) : Prop where
  base : ∀ b o, B b = some o → H b = some o
  all : ∀ q ∈ L, H q.1 = some q.2
  nd : (L.map Prod.fst).Nodup
  new : ∀ q ∈ L, B q.1 = none
/-- H without the addresses of a list -/
def mns (H : Hp) (F : List Addr) : Hp := fun b => if b ∈ F then none else H b
section
variable {B H H' : Hp} {L M : List (Addr × HO)} {a b p : Addr} {o u : HO}
theorem mns_nil : mns H [] = H := by
  funext b
  unfold mns
  rw [if_neg (by simp)]
theorem Wd.start (H : Hp) : Wd H [] H := ⟨fun _ _ h => h, fun _ h => by simp at h, List.nodup_nil, fun _ h => by simp at h⟩
theorem Wd.of (nd : (L.map Prod.fst).Nodup) (all : ∀ q ∈ L, H q.1 = some q.2) : Wd (mns H (L.map Prod.fst)) L H :=
  ⟨fun b o h => by
    unfold mns at h
    split at h
    · cases h
    · exact h, all, nd, fun q hq => by
      unfold mns
      rw [if_pos (List.mem_map_of_mem hq)]⟩
theorem Wd.at (h : Wd B L H) (i : Nat) (e : L[i]? = some (a, o)) : H a = some o := h.all (a, o) (List.mem_of_getElem? e)
theorem Wd.keyNone (h : Wd B L H) (hp : H p = none) : p ∉ L.map Prod.fst := fun hm => by
  obtain ⟨q, hq, e⟩ := List.mem_map.mp hm
  have := h.all q hq
  rw [e, hp] at this
  cases this
theorem Wd.baseNone (h : Wd B L H) (hp : H p = none) : B p = none := by
  cases e : B p with
  | none => rfl
  | some o => rw [h.base p o e] at hp; cases hp
theorem Wd.add (h : Wd B L H) (hp : H p = none) : Wd B ((p, o) :: L) (upd H p o) where
  base := fun b u e => by
    rw [upd_ne (ne_of_none (h.base b u e) hp)]
    exact h.base b u e
  all := fun q hq => by
    rcases List.mem_cons.mp hq with rfl | hq
    · exact upd_same
    · rw [upd_ne (ne_of_none (h.all q hq) hp)]
      exact h.all q hq
  nd := by
    rw [List.map_cons]
    exact List.nodup_cons.mpr ⟨h.keyNone hp, h.nd⟩
  new := fun q hq => by
    rcases List.mem_cons.mp hq with rfl | hq
    · exact h.baseNone hp
    · exact h.new q hq
theorem Wd.put (h : Wd B L H) (i : Nat) (e : L[i]? = some (a, u)) : Wd B (L.set i (a, o)) (upd H a o) := by
  obtain ⟨hi, e'⟩ := List.getElem?_eq_some_iff.mp e
  have hm : (a, u) ∈ L := List.mem_of_getElem? e
  have km : (L.set i (a, o)).map Prod.fst = L.map Prod.fst := by
    rw [List.map_set]
    refine List.ext_getElem? fun j => ?_
    by_cases hj : i = j
    · subst hj
      rw [List.getElem?_set_self (by rw [List.length_map]; exact hi), List.getElem?_map, e]
      rfl
    · rw [List.getElem?_set_ne hj]
  refine ⟨fun b v eb => ?_, fun q hq => ?_, by rw [km]; exact h.nd, fun q hq => ?_⟩
  · have : b ≠ a := fun z => by
      have := h.new _ hm
      rw [z] at eb
      rw [this] at eb
      cases eb
    rw [upd_ne this]
    exact h.base b v eb
  · obtain ⟨j, hj, ej⟩ := List.mem_iff_getElem.mp hq
    rw [List.length_set] at hj
    by_cases hij : i = j
    · subst hij
      rw [List.getElem_set_self] at ej
      subst ej
      exact upd_same
    · rw [List.getElem_set_ne hij] at ej
      have hq' : q ∈ L := by rw [← ej]; exact List.getElem_mem _
      have : q.1 ≠ a := fun z => by
        apply hij
        have nd := h.nd
        have h1 : (L.map Prod.fst)[i]'(by rw [List.length_map]; exact hi) = a := by rw [List.getElem_map, e']
        have h2 : (L.map Prod.fst)[j]'(by rw [List.length_map]; exact hj) = a := by rw [List.getElem_map, ej, z]
        exact (List.getElem_inj nd).mp (h1.trans h2.symm)
      rw [upd_ne this]
      exact h.all q hq'
  · have hq' : q.1 ∈ (L.set i (a, o)).map Prod.fst := List.mem_map_of_mem hq
    rw [km] at hq'
    obtain ⟨r, hr, er⟩ := List.mem_map.mp hq'
    rw [← er]
    exact h.new r hr
/-- behind a callee that owned L and left L' -/
theorem Wd.call {L' : List (Addr × HO)} (h : Wd B (L ++ M) H) (c : Wd (mns H (L.map Prod.fst)) L' H') : Wd B (L' ++ M) H' := by
  have nd := h.nd
  rw [List.map_append] at nd
  obtain ⟨n1, n2, n3⟩ := List.nodup_append.mp nd
  have kb : ∀ b o, B b = some o → b ∉ L.map Prod.fst := fun b o e hm => by
    obtain ⟨q, hq, e2⟩ := List.mem_map.mp hm
    have := h.new q (List.mem_append_left _ hq)
    rw [e2, e] at this
    cases this
  have up : ∀ b o, H b = some o → b ∉ L.map Prod.fst → H' b = some o := fun b o e hn => c.base b o (by unfold mns; rw [if_neg hn]; exact e)
  refine ⟨fun b o e => up b o (h.base b o e) (kb b o e), fun q hq => ?_, ?_, fun q hq => ?_⟩
  · rcases List.mem_append.mp hq with hq | hq
    · exact c.all q hq
    · exact up _ _ (h.all q (List.mem_append_right _ hq)) fun hm => n3 _ hm _ (List.mem_map_of_mem hq) rfl
  · rw [List.map_append]
    refine List.nodup_append.mpr ⟨c.nd, n2, fun x hx y hy e => ?_⟩
    subst e
    obtain ⟨q, hq, rfl⟩ := List.mem_map.mp hx
    obtain ⟨r, hr, er⟩ := List.mem_map.mp hy
    have h1 := c.new q hq
    unfold mns at h1
    split at h1
    · rename_i hm
      exact n3 _ hm _ hy rfl
    · rw [← er, h.all r (List.mem_append_right _ hr)] at h1
      cases h1
  · rcases List.mem_append.mp hq with hq | hq
    · have h1 := c.new q hq
      unfold mns at h1
      split at h1
      · rename_i hm
        obtain ⟨r, hr, er⟩ := List.mem_map.mp hm
        rw [← er]
        exact h.new r (List.mem_append_left _ hr)
      · exact h.baseNone h1
    · exact h.new q (List.mem_append_right _ hq)
/-- behind a callee that owned nothing -/
theorem Wd.pure {L' : List (Addr × HO)} (h : Wd B M H) (c : Wd H L' H') : Wd B (L' ++ M) H' := by
  refine Wd.call (L := []) h ?_
  rw [List.map_nil, mns_nil]
  exact c
theorem Wd.perm (h : Wd B L H) (e : List.Perm L M) : Wd B M H :=
  ⟨h.base, fun q hq => h.all q (e.mem_iff.mpr hq), (e.map Prod.fst).nodup_iff.mp h.nd, fun q hq => h.new q (e.mem_iff.mpr hq)⟩
theorem Wd.sub (h : Wd B L H) (s : List.Sublist M L) : Wd B M H :=
  ⟨h.base, fun q hq => h.all q (s.subset hq), (s.map Prod.fst).nodup h.nd, fun q hq => h.new q (s.subset hq)⟩
theorem Wd.drop0 {q : Addr × HO} (h : Wd B (q :: L) H) : Wd B L H := h.sub (List.sublist_cons_self _ _)
theorem Wd.same (h : Wd B L H) : Same B H := h.base
theorem Wd.seq {K : PySem.W.Frag} {xs : List V} (h : Wd B L H) (s : SqL K B a xs) : SqL K H a xs := h.same.seq s
theorem Wd.ne (h : Wd B L H) {i j : Nat} (e1 : L[i]? = some (a, o)) (e2 : L[j]? = some (b, u)) (hij : i ≠ j) : a ≠ b := fun z => by
  subst z
  have h1 : (L.map Prod.fst)[i]? = some a := by rw [List.getElem?_map, e1]; rfl
  have h2 : (L.map Prod.fst)[j]? = some a := by rw [List.getElem?_map, e2]; rfl
  exact hij (nd_ix h.nd h1 h2)
/-- the base may be cut -/
theorem Wd.weak {B' : Hp} (h : Wd B L H) (k : ∀ b o, B' b = some o → B b = some o) : Wd B' L H :=
  ⟨fun b o e => h.base b o (k b o e), h.all, h.nd, fun q hq => by
    cases e : B' q.1 with
    | none => rfl
    | some o => have := h.new q hq; rw [k _ _ e] at this; cases this⟩
end
/-! ## a choice of what is known -/
section
variable {B H H' : Hp} {L L' M : List (Addr × HO)}
theorem pick_mem : ∀ {idx : List Nat} {L L' : List (Addr × HO)}, idx.map (fun i => L[i]?) = L'.map some → ∀ q ∈ L', ∃ i ∈ idx, L[i]? = some q
  | [], _, [], _, q, hq => by simp at hq
  | [], _, _ :: _, h, _, _ => by simp at h
  | _ :: _, _, [], h, _, _ => by simp at h
  | i :: idx, L, x :: L', h, q, hq => by
    simp only [List.map_cons, List.cons.injEq] at h
    rcases List.mem_cons.mp hq with rfl | hq
    · exact ⟨i, List.mem_cons_self, h.1⟩
    · obtain ⟨j, hj, e⟩ := pick_mem h.2 q hq
      exact ⟨j, List.mem_cons_of_mem _ hj, e⟩
theorem pick_nd : ∀ {idx : List Nat} {L L' : List (Addr × HO)}, (L.map Prod.fst).Nodup → idx.Nodup → idx.map (fun i => L[i]?) = L'.map some → (L'.map Prod.fst).Nodup
  | [], _, [], _, _, _ => List.nodup_nil
  | [], _, _ :: _, _, _, h => by simp at h
  | _ :: _, _, [], _, _, h => by simp at h
  | i :: idx, L, x :: L', nd, ni, h => by
    simp only [List.map_cons, List.cons.injEq] at h
    rw [List.map_cons]
    refine List.nodup_cons.mpr ⟨fun hm => ?_, pick_nd nd (List.nodup_cons.mp ni).2 h.2⟩
    obtain ⟨q, hq, e⟩ := List.mem_map.mp hm
    obtain ⟨j, hj, ej⟩ := pick_mem h.2 q hq
    have h1 : (L.map Prod.fst)[i]? = some x.1 := by rw [List.getElem?_map, h.1]; rfl
    have h2 : (L.map Prod.fst)[j]? = some x.1 := by rw [List.getElem?_map, ej, ← e]; rfl
    have := nd_ix nd h1 h2
    subst this
    exact (List.nodup_cons.mp ni).1 hj
/-- L' is made of the places idx of L -/
theorem Wd.pick (h : Wd B (L ++ M) H) (idx : List Nat) (nd : idx.Nodup) (e : idx.map (fun i => L[i]?) = L'.map some) : Wd B (L' ++ M) H := by
  have hn := h.nd
  rw [List.map_append] at hn
  obtain ⟨n1, n2, n3⟩ := List.nodup_append.mp hn
  have sub : ∀ q ∈ L', q ∈ L := fun q hq => by
    obtain ⟨i, _, e⟩ := pick_mem e q hq
    exact List.mem_of_getElem? e
  refine ⟨h.base, fun q hq => h.all q ?_, ?_, fun q hq => h.new q ?_⟩
  · rcases List.mem_append.mp hq with hq | hq
    · exact List.mem_append_left _ (sub q hq)
    · exact List.mem_append_right _ hq
  · rw [List.map_append]
    refine List.nodup_append.mpr ⟨pick_nd n1 nd e, n2, fun x hx y hy => n3 x ?_ y hy⟩
    obtain ⟨q, hq, e2⟩ := List.mem_map.mp hx
    exact e2 ▸ List.mem_map_of_mem (sub q hq)
  · rcases List.mem_append.mp hq with hq | hq
    · exact List.mem_append_left _ (sub q hq)
    · exact List.mem_append_right _ hq
theorem Wd.swap (h : Wd B (L ++ (L' ++ M)) H) : Wd B (L' ++ (L ++ M)) H := h.perm (by
  rw [← List.append_assoc, ← List.append_assoc]
  exact List.Perm.append_right M List.perm_append_comm)
end
/-! ## loops of a written length, turn by turn -/
def UR (lo : Int) (g : TG) (tb : TS) (D : Ends) : Nat → Nat → L2.St → Hp → Prop
  | 0, _ => D.nx
  | k + 1, i => fun σ H => g (.int (lo + i)) σ H fun σ2 H2 => tb { D with nx := UR lo g tb D k (i + 1), ct := UR lo g tb D k (i + 1), bk := D.nx } σ2 H2
theorem for_rangeU {lo : Int} {n : Nat} {g : TG} {tb : TS} {D : Ends} {σ : L2.St} {H : Hp} (h : UR lo g tb D n 0 σ H) :
    ∃ W : Nat → Nat → L2.St → Hp → Prop, (∃ m, W 0 m σ H) ∧ ∀ i m σ H, W i m σ H →
      ((Itr lo n).stop i H ∧ D.nx σ H) ∨ ((Itr lo n).go i H ∧ ∃ N : L2.St → Hp → Prop, (∀ σ' H', N σ' H' → ∃ m', m' < m ∧ W (i + 1) m' σ' H') ∧ ∀ x H', (Itr lo n).yld i H x H' → g x σ H' fun σ2 H2 => tb { D with nx := N, ct := N, bk := D.nx } σ2 H2) := by
  refine for_range (Pv := fun i σ H => i ≤ n ∧ UR lo g tb D (n - i) i σ H) ⟨Nat.zero_le _, h⟩ (fun i σ H hi p => ?_) (fun σ H p => ?_)
  · obtain ⟨_, p⟩ := p
    have e : n - i = (n - (i + 1)) + 1 := by omega
    rw [e] at p
    have ee : (fun σ H => i + 1 ≤ n ∧ UR lo g tb D (n - (i + 1)) (i + 1) σ H) = UR lo g tb D (n - (i + 1)) (i + 1) := by
      funext σ H
      exact propext ⟨fun z => z.2, fun z => ⟨hi, z⟩⟩
    rw [ee]
    exact p
  · obtain ⟨_, p⟩ := p
    rw [Nat.sub_self] at p
    exact p
def URC (lo : Int) (g : TG) (tt : TT) (te : TE) (vs : List Nat) (σ : L2.St) (D : Addr) (Qd : Hp → Prop) : Nat → Nat → Hp → Prop
  | 0, _ => Qd
  | k + 1, i => fun H => g (.int (lo + i)) (wipe σ vs) H fun σ2 H2 => wipe σ2 vs = wipe σ vs ∧ tt σ2 H2 fun b H3 =>
      if b = true then te σ2 H3 fun y H4 => ∃ acc, H4 D = some (.lst acc) ∧ acc.length < sizeLine ∧ URC lo g tt te vs σ D Qd k (i + 1) (upd H4 D (.lst (acc ++ [y]))) else URC lo g tt te vs σ D Qd k (i + 1) H3

/-! ## small things -/
def isL (l : List Int) : HO := .lst (l.map V.int)
theorem sqL_of {K : PySem.W.Frag} {H : Hp} {a : Addr} {xs : List V} (h : H a = some (.lst xs)) : SqL K H a xs := .inl (.inl h)
theorem sqT_of {K : PySem.W.Frag} {H : Hp} {a : Addr} {xs : List V} (h : H a = some (.tup xs)) : SqT K H a xs := .inl (.inl h)
theorem map_get {l : List Int} {i : Nat} {y : V} (h : (l.map V.int)[i]? = some y) : ∃ z, l[i]? = some z ∧ y = .int z := by
  rw [List.getElem?_map] at h
  cases e : l[i]? with
  | none => rw [e] at h; cases h
  | some z => rw [e] at h; exact ⟨z, rfl, (Option.some.inj h).symm⟩
theorem isL_app (l : List Int) (i : Int) : (l.map V.int) ++ [.int i] = (l ++ [i]).map V.int := by simp
theorem isL_cat (l k : List Int) : (l.map V.int) ++ (k.map V.int) = (l ++ k).map V.int := by simp
/-- the cell of a script, 0 behind its end -/
def cell (ns : List Int) (k : Int) : Int := if k < ns.length then ns.getD k.toNat 0 else 0
theorem if_iff {c : Bool} {p : Prop} [Decidable p] {A B : Prop} (e : c = decide p) (h1 : p → A) (h2 : ¬ p → B) : if c = true then A else B := by
  subst e
  by_cases h : p
  · rw [decide_eq_true h, if_pos rfl]; exact h1 h
  · rw [decide_eq_false h, if_neg Bool.false_ne_true]; exact h2 h
theorem iteP {c : Bool} {p : Prop} [Decidable p] {A B : Prop} (h : p) (e : c = decide p) (a : A) : if c = true then A else B := by
  rw [e, decide_eq_true h, if_pos rfl]; exact a
theorem iteN {c : Bool} {p : Prop} [Decidable p] {A B : Prop} (h : ¬ p) (e : c = decide p) (b : B) : if c = true then A else B := by
  rw [e, decide_eq_false h, if_neg Bool.false_ne_true]; exact b
theorem pos_len (l : List Int) : decide ((0 : Int) < ((l.map V.int).length : Int)) = decide (l.length > 0) := by
  rw [List.length_map]
  exact decide_eq_decide.mpr Int.natCast_pos
theorem len2 (a b : List Int) (n : Nat) : decide ((n : Int) < ((a.map V.int).length : Int) + ((b.map V.int).length : Int)) = decide (a.length + b.length > n) := by
  rw [List.length_map, List.length_map]
  exact decide_eq_decide.mpr (by omega)
theorem len3 (a b c : List Int) (n : Nat) : decide ((n : Int) < ((a.map V.int).length : Int) + ((b.map V.int).length : Int) + ((c.map V.int).length : Int)) = decide (a.length + b.length + c.length > n) := by
  rw [List.length_map, List.length_map, List.length_map]
  exact decide_eq_decide.mpr (by omega)
theorem cut_to {l : List Int} {n : Int} (h : 0 ≤ n) : cutV (l.map V.int) none (some n) = (l.take n.toNat).map V.int := by
  obtain ⟨k, rfl⟩ := Int.eq_ofNat_of_zero_le h
  unfold cutV
  rw [HT.sIx_none, HT.sIx_nat, List.drop_zero, Nat.sub_zero, Int.toNat_natCast, List.length_map, ← List.map_take, List.take_eq_take_iff.mpr (show min (min k l.length) l.length = min k l.length by omega)]
theorem rep_int (n : Nat) (i : Int) : (List.replicate n [V.int i]).flatten = (List.replicate n i).map V.int := by
  induction n with
  | zero => rfl
  | succ n ih => rw [List.replicate_succ, List.flatten_cons, ih, List.replicate_succ, List.map_cons]; rfl
theorem take_more {α : Type} : ∀ {l : List α} {i : Nat} {x : α}, l[i]? = some x → l.take (i + 1) = l.take i ++ [x]
  | [], i, x, h => by simp at h
  | a :: l, 0, x, h => by
    have e : a = x := Option.some.inj h
    subst e
    rfl
  | a :: l, i + 1, x, h => by
    have ih := take_more (l := l) (i := i) (x := x) h
    show a :: l.take (i + 1) = a :: l.take i ++ [x]
    rw [ih]
    rfl
theorem band255 {x : Int} (h : 0 ≤ x) : Builtin.bitAnd x 255 = x % 256 := Bits.bitAnd_mask 8 h
theorem band15 {x : Int} (h : 0 ≤ x) : Builtin.bitAnd x 15 = x % 16 := Bits.bitAnd_mask 4 h
theorem band1 {x : Int} (h : 0 ≤ x) : Builtin.bitAnd x 1 = x % 2 := Bits.bitAnd_mask 1 h
theorem ab_nn (i : Int) : 0 ≤ (if i < 0 then -i else i) := by split <;> omega
theorem sz_le {n : Nat} (h : n ≤ 200000) : n ≤ sizeLine := Nat.le_trans h (by decide)
theorem sz_lt {n : Nat} (h : n ≤ 200000) : n < sizeLine := Nat.lt_of_le_of_lt h (by decide)
/-! ## equality of data -/
def dInts (l : List Int) : PyData := .list (l.map PyData.int)
theorem dpAll_ints {K : PySem.W.Frag} {H : Hp} : ∀ l : List Int, DpAll K H (l.map V.int) (l.map PyData.int)
  | [] => .nil
  | i :: l => .cons (.int i) (dpAll_ints l)
theorem dp_ints {K : PySem.W.Frag} {H : Hp} {a : Addr} {l : List Int} (h : SqL K H a (l.map V.int)) : Dp K H (.ref a) (dInts l) := .lst h (dpAll_ints l)
theorem canLay_ints : ∀ l : List Int, PyData.canLayAll0 (l.map PyData.int) = true
  | [] => rfl
  | i :: l => by
    show (PyData.canLay0 (.int i) && PyData.canLayAll0 (l.map PyData.int)) = true
    rw [canLay_ints l]
    rfl
theorem depth_ints : ∀ l : List Int, PyData.depthAll (l.map PyData.int) = 0
  | [] => rfl
  | i :: l => by
    show max (PyData.depth (.int i)) (PyData.depthAll (l.map PyData.int)) = 0
    rw [depth_ints l]
    rfl
theorem shaped_ints (l : List Int) : SeqAt.shaped (dInts l) = true := by
  have h1 : PyData.canLay0 (dInts l) = true := canLay_ints l
  have h2 : PyData.depth (dInts l) = 0 + 1 := congrArg (· + 1) (depth_ints l)
  unfold SeqAt.shaped
  rw [h1, h2]
  rfl
theorem eqv_ints : ∀ l k : List Int, PyData.eqvAll (l.map PyData.int) (k.map PyData.int) = decide (l = k)
  | [], [] => rfl
  | [], j :: k => by
    show false = _
    rw [decide_eq_false (by simp)]
  | i :: l, [] => by
    show false = _
    rw [decide_eq_false (by simp)]
  | i :: l, j :: k => by
    show ((i == j) && PyData.eqvAll (l.map PyData.int) (k.map PyData.int)) = _
    rw [eqv_ints l k]
    by_cases e1 : i = j
    · subst e1
      by_cases e2 : l = k
      · subst e2; simp
      · rw [decide_eq_false e2, decide_eq_false (by simpa using e2)]; simp
    · rw [decide_eq_false (show ¬ (i :: l = j :: k) by intro z; exact e1 (List.cons.inj z).1), beq_eq_false_iff_ne.mpr e1]; rfl
theorem eqD_ints (l k : List Int) : PyData.eqv (dInts l) (dInts k) = decide (l = k) := eqv_ints l k
/-! ## the class of a value -/
theorem isi_int {K : PySem.W.Frag} {H : Hp} {Q : VK} (i : Int) (n : String) {r : Bool} (hk : kitB "int" n = some r) (q : Q (.bl r) H) : rIsi K [.int i, .ty n] H Q := ⟨_, _, _, _, r, rfl, .ty n, .base (.int i), kit_ty hk, q⟩
theorem isi_lst {K : PySem.W.Frag} {H : Hp} {Q : VK} {a : Addr} {xs : List V} (h : H a = some (.lst xs)) (n : String) {r : Bool} (hk : kitB "list" n = some r) (q : Q (.bl r) H) : rIsi K [.ref a, .ty n] H Q := ⟨_, _, _, _, r, rfl, .ty n, .base (.lst h), kit_ty hk, q⟩
theorem isi_str {K : PySem.W.Frag} {H : Hp} {Q : VK} (x : Str) (n : String) {r : Bool} (hk : kitB "str" n = some r) (q : Q (.bl r) H) : rIsi K [.str x, .ty n] H Q := ⟨_, _, _, _, r, rfl, .ty n, .base (.str x), kit_ty hk, q⟩
theorem isi_bl {K : PySem.W.Frag} {H : Hp} {Q : VK} (x : Bool) (n : String) {r : Bool} (hk : kitB "bool" n = some r) (q : Q (.bl r) H) : rIsi K [.bl x, .ty n] H Q := ⟨_, _, _, _, r, rfl, .ty n, .base (.bl x), kit_ty hk, q⟩
theorem isi_non {K : PySem.W.Frag} {H : Hp} {Q : VK} (n : String) {r : Bool} (hk : kitB "NoneType" n = some r) (q : Q (.bl r) H) : rIsi K [.non, .ty n] H Q := ⟨_, _, _, _, r, rfl, .ty n, .base .non, kit_ty hk, q⟩
theorem isi_tup {K : PySem.W.Frag} {H : Hp} {Q : VK} {a : Addr} {xs : List V} (h : H a = some (.tup xs)) (n : String) {r : Bool} (hk : kitB "tuple" n = some r) (q : Q (.bl r) H) : rIsi K [.ref a, .ty n] H Q := ⟨_, _, _, _, r, rfl, .ty n, .base (.tup h), kit_ty hk, q⟩
theorem kit_ii : kitB "int" "int" = some true := by decide +kernel
theorem kit_ib : kitB "int" "bool" = some false := by decide +kernel
theorem kit_ll : kitB "list" "list" = some true := by decide +kernel
theorem kit_ss : kitB "str" "str" = some true := by decide +kernel
theorem kit_bb : kitB "bool" "bool" = some true := by decide +kernel
theorem kit_is : kitB "int" "str" = some false := by decide +kernel
theorem kit_ns : kitB "NoneType" "str" = some false := by decide +kernel
theorem kit_bs : kitB "bool" "str" = some false := by decide +kernel
theorem kit_ls : kitB "list" "str" = some false := by decide +kernel
theorem kit_ts : kitB "tuple" "str" = some false := by decide +kernel
theorem kit_ds : kitB "dict" "str" = some false := by decide +kernel
/-- isinstance of an error in a suite -/
theorem isE_of {K : PySem.W.Frag} {H : Hp} {Q : VK} {a D C : Addr} {b : Bool} (c : ExcC K D) (k : PySem.W.kitOne K (.ref D) (.ref C) = some b) (q : Q (.bl b) H) : rIsE2 K a (.ref D) none [.ref a, .ref C] H Q :=
  ⟨D, rfl, rfl, c, .ref C, .ref C, b, rfl, fun u h => h, k, q⟩
/-! ## rules that name the written part shortly -/
def rLen (K : PySem.W.Frag) : List V → Hp → VK → Prop := fun xs H Q => ∃ p ys, xs = [.ref p] ∧ (SqL K H p ys ∨ SqT K H p ys) ∧ Q (.int (ys.length : Int)) H
def rList (K : PySem.W.Frag) : List V → Hp → VK → Prop := fun xs H Q => ∃ p ys, xs = [.ref p] ∧ (SqL K H p ys ∨ SqT K H p ys) ∧ ∀ l, H l = none → Q (.ref l) (upd H l (.lst ys))
def rAbs : List V → Hp → VK → Prop := fun xs H Q => ∃ i, xs = [.int i] ∧ Q (.int (if i < 0 then -i else i)) H
def rMin2 : List V → Hp → VK → Prop := fun xs H Q => ∃ i j, xs = [.int i, .int j] ∧ Q (.int (if j < i then j else i)) H
def rMax2 : List V → Hp → VK → Prop := fun xs H Q => ∃ i j, xs = [.int i, .int j] ∧ Q (.int (if j > i then j else i)) H
def rInt1 : List V → Hp → VK → Prop := fun xs H Q => (∃ i, xs = [.int i] ∧ Q (.int i) H) ∨ ∃ k, xs = [.bl k] ∧ Q (.int (if k then 1 else 0)) H
def rNot : R2 := fun x y H Q => y = .non ∧ Q (.bl (!decide (x = .non))) H
def rIs : R2 := fun x y H Q => y = .non ∧ Q (.bl (decide (x = .non))) H
section
variable {X : Cx} {K : PySem.W.Frag}
theorem pe_fldK {e : Expr} {f : Str} {pos : Pos} {ta : TE} (he : PE X e ta) (hb : attributeBase e f X.env (eval e X.env) = eval e X.env) (hK : X.K = K := by rfl) : PE X (.Attribute e f pos) (tFld K ta f) := by subst hK; exact pe_fld he hb
theorem ps_fldK {o value : Expr} {f : Str} {pos pos' : Pos} {ta tv : TE} (ha : PE X o ta) (hv : PE X value tv) (hs : swapsWith value (some (.Attribute o f pos')) pos.line X.env = pure false) (hK : X.K = K := by rfl) : PS X (.Assign [.Attribute o f pos'] value pos) (sFld K ta tv f) := by subst hK; exact ps_fld ha hv hs
theorem ps_fldaugK {o value : Expr} {f : Str} {pos tpos : Pos} {ta tv : TE} {op : Operator} {rd : V → V → Hp → VK → Prop} (ha : PE X o ta) (hv : PE X value tv) (hop : InOp X op rd) (hK : X.K = K := by rfl) : PS X (.AugAssign (.Attribute o f tpos) op value pos) (sFldAug K ta tv rd f) := by subst hK; exact ps_fldaug ha hv hop
theorem ix_listK (hK : X.K = K := by rfl) : IxR X (rIxL K) := by subst hK; exact ix_list
theorem ix_tupK (hK : X.K = K := by rfl) : IxR X (rIxT K) := by subst hK; exact ix_tup
theorem sl_listK (hK : X.K = K := by rfl) : SlR X (rSlL K) := by subst hK; exact sl_list
theorem sl_tupK (hK : X.K = K := by rfl) : SlR X (rSlT K) := by subst hK; exact sl_tup
theorem op_eqDK (hu : X.A.units + 64 < cLine) (hK : X.K = K := by rfl) : OpR X (compareOp .Eq) (rEqD K) := by subst hK; exact op_eqD hu
theorem op_neDK (hu : X.A.units + 64 < cLine) (hK : X.K = K := by rfl) : OpR X (compareOp .NotEq) (rNeD K) := by subst hK; exact op_neD hu
theorem op_inK (hK : X.K = K := by rfl) : OpR X (compareOp .In) (rIn K false) := by subst hK; exact op_in_seq
theorem op_notInK (hK : X.K = K := by rfl) : OpR X (compareOp .NotIn) (rIn K true) := by subst hK; exact op_notIn_seq
theorem call_lenK (hK : X.K = K := by rfl) : CallR X (.builtin "len") (rLen K) := by subst hK; exact call_len_seq
theorem call_listK (hK : X.K = K := by rfl) : CallR X (.type "list") (rList K) := by subst hK; exact call_list_of
theorem call_isiK' (hK : X.K = K := by rfl) : CallR X (.builtin "isinstance") (rIsi K) := by subst hK; exact call_isi
theorem call_absK : CallR X (.builtin "abs") rAbs := call_abs
theorem call_minK (hc : X.calm = true) : CallR X (.builtin "min") rMin2 := call_min2 hc
theorem call_maxK (hc : X.calm = true) : CallR X (.builtin "max") rMax2 := call_max2 hc
theorem call_intK : CallR X (.type "int") rInt1 := call_int1
theorem op_notNK : OpR X (compareOp .IsNot) rNot := op_notN
theorem op_isNK : OpR X (compareOp .Is) rIs := op_isN
theorem pi_listK {tg l : Expr} {tl : TE} (hl : PE X l tl) (hK : X.K = K := by rfl) : PI X tg l (iList K tl) := by subst hK; exact pi_list hl
theorem pi_tupK {tg l : Expr} {tl : TE} (hl : PE X l tl) (hK : X.K = K := by rfl) : PI X tg l (iTup K tl) := by subst hK; exact pi_tup hl
theorem pg_tupK {es : List Expr} {k : Nat} {t : TGs} {n : Nat} {pos : Pos} (hc : X.calm = true) (h : PGs X es t)
    (hn : (assignEach es X.env).length = n := by rfl) (hst : (assignEach es X.env).findIdx? (·.1) = none := by rfl) (hK : X.K = K := by rfl) : PG X (.Tuple es k pos) (gTup K n t) := by subst hK; exact pg_tup hc h hn hst
theorem pe_bm0K {o : Expr} {to : TE} {T : String} {name : Str} {id : String} {r : V → List V → Hp → VK → Prop} {apos cpos : Pos} (pa : PlainAttrs T) (slot : Slot T name id) (hty : typeOf (.builtin id) = pure (.type "method_descriptor")) (hm : MtR X id r) (ho : PE X o to)
    (hbase : attributeBase o name X.env (eval o X.env) = eval o X.env := by rfl) (hline : (apos.endLine == cpos.line) = true := by rfl) (hK : X.K = K := by rfl) : PE X (.Call (.Attribute o name apos) [] [] cpos) (tBM0 K T r to) := by subst hK; exact pe_bm0 pa slot hty hm ho hbase hline
theorem pe_bmK {o e : Expr} {es : List Expr} {to : TE} {t : TA} {T : String} {name : Str} {id : String} {r : V → List V → Hp → VK → Prop} {apos cpos : Pos} (pa : PlainAttrs T) (slot : Slot T name id) (hty : typeOf (.builtin id) = pure (.type "method_descriptor")) (hm : MtR X id r) (ho : PE X o to) (ha : PA X (e :: es) t)
    (hbase : attributeBase o name X.env (eval o X.env) = eval o X.env := by rfl)
    (hfew : ((backTo cpos (starEach (e :: es) X.env)).all (fun x => !x.1) && (backToKw cpos (keywordEach [] X.env)).all (fun x => x.1.isSome)
      && decide ((e :: es).length + ([] : List Keyword).length + (if ([] : List Keyword).isEmpty then 0 else 1) < 30)) = true := by rfl)
    (hline : (apos.endLine == cpos.line) = true := by rfl) (hs : starEach (e :: es) X.env = (false, eval e X.env) :: starEach es X.env := by rfl) (hplain : (backTo cpos (starEach es X.env)).any (·.1) = false := by rfl) (hK : X.K = K := by rfl) :
    PE X (.Call (.Attribute o name apos) (e :: es) [] cpos) (tBM K T r to t) := by subst hK; exact pe_bm pa slot hty hm ho ha hbase hfew hline hs hplain
end
theorem dpAll_bls {K : PySem.W.Frag} {H : Hp} : ∀ l : List Bool, DpAll K H (l.map V.bl) (l.map PyData.bool)
  | [] => .nil
  | i :: l => .cons (.bl i) (dpAll_bls l)
theorem dp_bls {K : PySem.W.Frag} {H : Hp} {a : Addr} (l : List Bool) (h : H a = some (.lst (l.map V.bl))) : Dp K H (.ref a) (.list (l.map PyData.bool)) := .lst (sqL_of h) (dpAll_bls l)
/-- an if whose ways meet again: what holds behind both -/
theorem if_join {D : Ends} {t u : TS} {σ : L2.St} {H : Hp} (Pv : L2.St → Hp → Prop) {c : Bool} {p : Prop} [Decidable p] (e : c = decide p) (h1 : p → ∀ N : L2.St → Hp → Prop, (∀ σ' H', Pv σ' H' → N σ' H') → t { D with nx := N } σ H)
    (h2 : ¬ p → ∀ N : L2.St → Hp → Prop, (∀ σ' H', Pv σ' H' → N σ' H') → u { D with nx := N } σ H) (h3 : ∀ σ' H', Pv σ' H' → D.nx σ' H') : if c = true then t D σ H else u D σ H := by
  subst e
  by_cases h : p
  · rw [decide_eq_true h, if_pos rfl]; exact h1 h D.nx h3
  · rw [decide_eq_false h, if_neg Bool.false_ne_true]; exact h2 h D.nx h3
end Hk

namespace K58
open PySem PySem.Spec PyProof.Rows L2 Hk
/-! ## the model -/
structure AM where
  s0 : List Int
  s1 : List Int
  f0 : List Int
  f1 : List Int
  left : Int
  cr : Int
structure DT where
  dx : Addr
  aS : Addr
  aF : Addr
  s0 : Addr
  s1 : Addr
  f0 : Addr
  f1 : Addr
def dF (t : DT) (ar : Bool) (de : Int) (m : AM) : List (Str × V) := [("_settled", .ref t.aS), ("_fresh", .ref t.aF), ("_armed", .bl ar), ("_deeds", .int de), ("_crashes", .int m.cr)]
def DL (C d : Addr) (t : DT) (ar : Bool) (de : Int) (m : AM) : List (Addr × HO) :=
  [(d, .ins C t.dx (dF t ar de m)), (t.aS, .lst [.ref t.s0, .ref t.s1]), (t.aF, .lst [.ref t.f0, .ref t.f1]), (t.s0, isL m.s0), (t.s1, isL m.s1), (t.f0, isL m.f0), (t.f1, isL m.f1)]
def Rel (ar : Bool) (de : Int) (m : AM) : Prop := if ar = true then de = m.left ∧ 0 ≤ de else m.left = -1
def AM.use (m : AM) : AM := if m.left > 0 then { m with left := m.left - 1 } else m
def AM.s (m : AM) (b : Bool) : List Int := if b then m.s1 else m.s0
def AM.f (m : AM) (b : Bool) : List Int := if b then m.f1 else m.f0
def AM.setS (m : AM) (b : Bool) (l : List Int) : AM := if b then { m with s1 := l } else { m with s0 := l }
def AM.setF (m : AM) (b : Bool) (l : List Int) : AM := if b then { m with f1 := l } else { m with f0 := l }
def bi (b : Bool) : Int := if b then 1 else 0
/-- what both banks hold has room -/
def AM.ok (m : AM) : Prop := m.s0.length + m.f0.length ≤ 65536 ∧ m.s1.length + m.f1.length ≤ 65536 ∧ -1 ≤ m.left
theorem use_s (m : AM) (b : Bool) : m.use.s b = m.s b := by unfold AM.use; split <;> rfl
theorem use_f (m : AM) (b : Bool) : m.use.f b = m.f b := by unfold AM.use; split <;> rfl
theorem use_ok {m : AM} (h : m.ok) : m.use.ok := by
  unfold AM.use
  split
  · exact ⟨h.1, h.2.1, by show -1 ≤ m.left - 1; omega⟩
  · exact h
theorem ok_s {m : AM} (h : m.ok) (b : Bool) : (m.s b).length + (m.f b).length ≤ 65536 := by
  cases b
  · exact h.1
  · exact h.2.1
/-- the deeds: the state behind it; 0 done, 1 no power, 2 order, 3 range -/
def AM.write (m : AM) (b : Bool) (xs : List Int) : AM × Nat :=
  if m.left = 0 then (m, 1) else if (m.use.f (!b)).length > 0 then (m.use, 2)
  else if (m.use.s b).length + (m.use.f b).length + xs.length > 65536 then (m.use, 3) else (m.use.setF b (m.use.f b ++ xs), 0)
def AM.settle (m : AM) (b : Bool) : AM × Nat := if m.left = 0 then (m, 1) else ((m.use.setS b (m.use.s b ++ m.use.f b)).setF b [], 0)
def AM.cut (m : AM) (b : Bool) (n : Int) : AM × Nat :=
  if m.left = 0 then (m, 1) else if m.use.f0.length + m.use.f1.length > 0 then (m.use, 2)
  else if n < 0 ∨ n > (m.use.s b).length then (m.use, 3) else (m.use.setS b ((m.use.s b).take n.toNat), 0)
def crB (m : AM) (b : Bool) (k t : Nat) : AM :=
  (m.setS b (m.s b ++ ((m.f b).take k ++ List.replicate (min t ((m.f b).length - ((m.f b).take k).length)) 0))).setF b []
def AM.crash (m : AM) (k t : Nat) : AM := { crB (crB m false k t) true k t with left := -1, cr := m.cr + 1 }
def AM.arm (m : AM) (n : Int) : AM := if m.left = 0 then m else { m with left := n }
theorem ok_write {m : AM} (h : m.ok) (b : Bool) (xs : List Int) : (m.write b xs).1.ok := by
  have hu := use_ok h
  unfold AM.write
  split
  · exact h
  · split
    · exact hu
    · split
      · exact hu
      · rename_i c
        cases b
        · refine ⟨?_, hu.2.1, hu.2.2⟩
          show m.use.s0.length + (m.use.f0 ++ xs).length ≤ 65536
          have c' : ¬ m.use.s0.length + m.use.f0.length + xs.length > 65536 := c
          rw [List.length_append]
          omega
        · refine ⟨hu.1, ?_, hu.2.2⟩
          show m.use.s1.length + (m.use.f1 ++ xs).length ≤ 65536
          have c' : ¬ m.use.s1.length + m.use.f1.length + xs.length > 65536 := c
          rw [List.length_append]
          omega
theorem ok_settle {m : AM} (h : m.ok) (b : Bool) : (m.settle b).1.ok := by
  have hu := use_ok h
  have h1 := hu.1
  have h2 := hu.2.1
  unfold AM.settle
  split
  · exact h
  · cases b
    · refine ⟨?_, hu.2.1, hu.2.2⟩
      show (m.use.s0 ++ m.use.f0).length + 0 ≤ 65536
      rw [List.length_append]
      omega
    · refine ⟨hu.1, ?_, hu.2.2⟩
      show (m.use.s1 ++ m.use.f1).length + 0 ≤ 65536
      rw [List.length_append]
      omega
theorem ok_cut {m : AM} (h : m.ok) (b : Bool) (n : Int) : (m.cut b n).1.ok := by
  have hu := use_ok h
  have h1 := hu.1
  have h2 := hu.2.1
  unfold AM.cut
  split
  · exact h
  · split
    · exact hu
    · split
      · exact hu
      · cases b
        · refine ⟨?_, hu.2.1, hu.2.2⟩
          show (m.use.s0.take n.toNat).length + m.use.f0.length ≤ 65536
          rw [List.length_take]
          omega
        · refine ⟨hu.1, ?_, hu.2.2⟩
          show (m.use.s1.take n.toNat).length + m.use.f1.length ≤ 65536
          rw [List.length_take]
          omega
theorem cr_len (s f : List Int) (k t : Nat) : (s ++ (f.take k ++ List.replicate (min t (f.length - (f.take k).length)) 0)).length ≤ s.length + f.length := by
  rw [List.length_append, List.length_append, List.length_replicate, List.length_take]
  omega
theorem ok_crB {m : AM} (h : m.ok) (b : Bool) (k t : Nat) : (crB m b k t).ok := by
  have h1 := h.1
  have h2 := h.2.1
  cases b
  · refine ⟨?_, h.2.1, h.2.2⟩
    have := cr_len m.s0 m.f0 k t
    show _ + 0 ≤ 65536
    exact Nat.le_trans this h1
  · refine ⟨h.1, ?_, h.2.2⟩
    have := cr_len m.s1 m.f1 k t
    show _ + 0 ≤ 65536
    exact Nat.le_trans this h2
theorem ok_crash {m : AM} (h : m.ok) (k t : Nat) : (m.crash k t).ok := by
  have h2 := ok_crB (ok_crB h false k t) true k t
  exact ⟨h2.1, h2.2.1, by show (-1 : Int) ≤ -1; decide⟩
theorem ok_arm {m : AM} (h : m.ok) {n : Int} (hn : 0 ≤ n) : (m.arm n).ok := by
  unfold AM.arm
  split
  · exact h
  · exact ⟨h.1, h.2.1, by show -1 ≤ n; omega⟩
/-! ## promises -/
def outc (CP CO CR : Addr) (Q : VK) (E : XK) (n : Nat) (H : Hp) : Prop := match n with
  | 0 => Q .non H
  | 1 => E (.ref CP) none H
  | 2 => E (.ref CO) none H
  | _ => E (.ref CR) none H
def spHas (C : Addr) : Sp := fun vs H Q E => ∃ d t ar de m B M, vs = [.ref d] ∧ Rel ar de m ∧ Wd B (DL C d t ar de m ++ M) H ∧ Q (.bl (decide (m.left ≠ 0))) H
def spUse (C CP : Addr) : Sp := fun vs H Q E => ∃ d t ar de m B M, vs = [.ref d] ∧ Rel ar de m ∧ Wd B (DL C d t ar de m ++ M) H ∧
  (m.left = 0 → E (.ref CP) none H) ∧ (m.left ≠ 0 → ∀ de' H', Rel ar de' m.use → Wd B (DL C d t ar de' m.use ++ M) H' → Q .non H')
def spInit (C : Addr) : Sp := fun vs H Q E => ∃ d dx B M, vs = [.ref d] ∧ Wd B ((d, .ins C dx []) :: M) H ∧ ∀ t H', Wd B (DL C d t false 0 ⟨[], [], [], [], -1, 0⟩ ++ M) H' → Q .non H'
def spWrite (C CP CO CR : Addr) : Sp := fun vs H Q E => ∃ d t ar de m B M b a xs, vs = [.ref d, .int (bi b), .ref a] ∧ m.ok ∧ Rel ar de m ∧ Wd B (DL C d t ar de m ++ ((a, isL xs) :: M)) H ∧
  ∀ ar' de' t' H', Rel ar' de' (m.write b xs).1 → Wd B (DL C d t' ar' de' (m.write b xs).1 ++ ((a, isL xs) :: M)) H' → outc CP CO CR Q E (m.write b xs).2 H'
def spSettle (C CP CO CR : Addr) : Sp := fun vs H Q E => ∃ d t ar de m B M b, vs = [.ref d, .int (bi b)] ∧ m.ok ∧ Rel ar de m ∧ Wd B (DL C d t ar de m ++ M) H ∧
  ∀ ar' de' t' H', Rel ar' de' (m.settle b).1 → Wd B (DL C d t' ar' de' (m.settle b).1 ++ M) H' → outc CP CO CR Q E (m.settle b).2 H'
def spCut (C CP CO CR : Addr) : Sp := fun vs H Q E => ∃ d t ar de m B M b n, vs = [.ref d, .int (bi b), .int n] ∧ m.ok ∧ Rel ar de m ∧ Wd B (DL C d t ar de m ++ M) H ∧
  ∀ ar' de' t' H', Rel ar' de' (m.cut b n).1 → Wd B (DL C d t' ar' de' (m.cut b n).1 ++ M) H' → outc CP CO CR Q E (m.cut b n).2 H'
def spRead (C : Addr) : Sp := fun vs H Q E => ∃ d t ar de m B M b, vs = [.ref d, .int (bi b)] ∧ m.ok ∧ Wd B (DL C d t ar de m ++ M) H ∧ ∀ p H', Wd B ((p, isL (m.s b ++ m.f b)) :: (DL C d t ar de m ++ M)) H' → Q (.ref p) H'
def spPend (C : Addr) : Sp := fun vs H Q E => ∃ d t ar de m B M, vs = [.ref d] ∧ Wd B (DL C d t ar de m ++ M) H ∧ Q (.int ((m.f0.length : Int) + (m.f1.length : Int))) H
def spArm (C : Addr) : Sp := fun vs H Q E => ∃ d t ar de m B M n, vs = [.ref d, .int n] ∧ 0 ≤ n ∧ Rel ar de m ∧ Wd B (DL C d t ar de m ++ M) H ∧
  ∀ ar' de' H', Rel ar' de' (m.arm n) → Wd B (DL C d t ar' de' (m.arm n) ++ M) H' → Q .non H'
def spCrash (C : Addr) : Sp := fun vs H Q E => ∃ d t ar de m B M k n, vs = [.ref d, .int k, .int n] ∧ 0 ≤ k ∧ 0 ≤ n ∧ m.ok ∧ Rel ar de m ∧ Wd B (DL C d t ar de m ++ M) H ∧
  ∀ ar' de' t' H', Rel ar' de' (m.crash k.toNat n.toNat) → Wd B (DL C d t' ar' de' (m.crash k.toNat n.toNat) ++ M) H' → Q .non H'
def spCrs (C : Addr) : Sp := fun vs H Q E => ∃ d t ar de m B M, vs = [.ref d] ∧ Wd B (DL C d t ar de m ++ M) H ∧ Q (.int m.cr) H
def spCell (K : PySem.W.Frag) : Sp := fun vs H Q _ => ∃ a ns k, vs = [.ref a, .int k] ∧ SqL K H a (ns.map V.int) ∧ 0 ≤ k ∧ Q (.int (cell ns k)) H
def spRow : Sp := fun vs H Q _ => ∃ c n, vs = [.int c, .int n] ∧ 0 ≤ n ∧ n ≤ 100000 ∧ ∀ ys p H', ys.length = n.toNat → (∀ y ∈ ys, 0 ≤ y ∧ y ≤ 255) → Wd H [(p, isL ys)] H' → Q (.ref p) H'
def spIsInt : Sp := fun vs H Q _ => ∃ i, vs = [.int i] ∧ Q (.bl true) H
def spSays : Sp := fun vs H Q _ => ∃ a b, vs = [.bl a, .bl b] ∧ Q (.bl (decide (a = b))) H
/-- the model's lists -/
def ML (a : Addr) (t : DT) (m : AM) : List (Addr × HO) :=
  [(a, .lst [.ref t.aS, .ref t.aF, .int m.left, .int m.cr]), (t.aS, .lst [.ref t.s0, .ref t.s1]), (t.aF, .lst [.ref t.f0, .ref t.f1]), (t.s0, isL m.s0), (t.s1, isL m.s1), (t.f0, isL m.f0), (t.f1, isL m.f1)]
def wd : Nat → Str
  | 0 => ""
  | 1 => "power"
  | 2 => "order"
  | _ => "range"
def spWord (C : Addr) : Sp := fun vs H Q E => ∃ d t ar de m B b, m.ok ∧ Rel ar de m ∧
  ((∃ a xs M, vs = [.ref d, .int 0, .int (bi b), .ref a] ∧ Wd B (DL C d t ar de m ++ ((a, isL xs) :: M)) H ∧ ∀ ar' de' t' H', Rel ar' de' (m.write b xs).1 → Wd B (DL C d t' ar' de' (m.write b xs).1 ++ ((a, isL xs) :: M)) H' → Q (.str (wd (m.write b xs).2)) H') ∨
   (∃ M, vs = [.ref d, .int 1, .int (bi b), .non] ∧ Wd B (DL C d t ar de m ++ M) H ∧ ∀ ar' de' t' H', Rel ar' de' (m.settle b).1 → Wd B (DL C d t' ar' de' (m.settle b).1 ++ M) H' → Q (.str (wd (m.settle b).2)) H') ∨
   (∃ n M, vs = [.ref d, .int 2, .int (bi b), .int n] ∧ Wd B (DL C d t ar de m ++ M) H ∧ ∀ ar' de' t' H', Rel ar' de' (m.cut b n).1 → Wd B (DL C d t' ar' de' (m.cut b n).1 ++ M) H' → Q (.str (wd (m.cut b n).2)) H'))
def spExp : Sp := fun vs H Q E => ∃ d t m B b, m.ok ∧
  ((∃ a xs M, vs = [.ref d, .int 0, .int (bi b), .ref a] ∧ xs.length ≤ 65536 ∧ Wd B (ML d t m ++ ((a, isL xs) :: M)) H ∧ ∀ t' H', Wd B (ML d t' (m.write b xs).1 ++ ((a, isL xs) :: M)) H' → Q (.str (wd (m.write b xs).2)) H') ∨
   (∃ M, vs = [.ref d, .int 1, .int (bi b), .non] ∧ Wd B (ML d t m ++ M) H ∧ ∀ t' H', Wd B (ML d t' (m.settle b).1 ++ M) H' → Q (.str (wd (m.settle b).2)) H') ∨
   (∃ n M, vs = [.ref d, .int 2, .int (bi b), .int n] ∧ Wd B (ML d t m ++ M) H ∧ ∀ t' H', Wd B (ML d t' (m.cut b n).1 ++ M) H' → Q (.str (wd (m.cut b n).2)) H'))
def spMCr : Sp := fun vs H Q E => ∃ d t m B M k n, vs = [.ref d, .int k, .int n] ∧ 0 ≤ k ∧ 0 ≤ n ∧ m.ok ∧ Wd B (ML d t m ++ M) H ∧ ∀ t' H', Wd B (ML d t' (m.crash k.toNat n.toNat) ++ M) H' → Q .non H'
def spSame (C : Addr) : Sp := fun vs H Q E => ∃ d a t t2 ar de m B M, vs = [.ref d, .ref a] ∧ m.ok ∧ Rel ar de m ∧ Wd B (DL C d t ar de m ++ (ML a t2 m ++ M)) H ∧ ∀ H', Wd B (DL C d t ar de m ++ (ML a t2 m ++ M)) H' → Q (.bl true) H'
def spDeed (C : Addr) : Sp := fun vs H Q E => ∃ d a t t2 ar de m B M c, vs = [.ref d, .ref a, .int c] ∧ 0 ≤ c ∧ m.ok ∧ Rel ar de m ∧ Wd B (DL C d t ar de m ++ (ML a t2 m ++ M)) H ∧
  ∀ t' t2' ar' de' m' H', m'.ok → Rel ar' de' m' → Wd B (DL C d t' ar' de' m' ++ (ML a t2' m' ++ M)) H' → Q (.bl true) H'
def spLaw (K : PySem.W.Frag) : Sp := fun vs H Q _ => ∃ (a : Addr) (ns : List Int), vs = [.ref a] ∧ SqL K H a (ns.map V.int) ∧ ns.length ≤ 63 ∧ ∀ H', Q (.bl true) H'
local macro_rules | `(tactic| walk_at "hp") => `(tactic| (first
  | (refine' Wd.at ?h 0 ?e; (case h => assumption); (case e => rfl))
  | (refine' Wd.at ?h 1 ?e; (case h => assumption); (case e => rfl))
  | (refine' Wd.at ?h 2 ?e; (case h => assumption); (case e => rfl))
  | (refine' Wd.at ?h 3 ?e; (case h => assumption); (case e => rfl))
  | (refine' Wd.at ?h 4 ?e; (case h => assumption); (case e => rfl))
  | (refine' Wd.at ?h 5 ?e; (case h => assumption); (case e => rfl))
  | (refine' Wd.at ?h 6 ?e; (case h => assumption); (case e => rfl))
  | (refine' Wd.at ?h 7 ?e; (case h => assumption); (case e => rfl))
  | (refine' Wd.at ?h 8 ?e; (case h => assumption); (case e => rfl))
  | (refine' Wd.at ?h 9 ?e; (case h => assumption); (case e => rfl))
  | (refine' Wd.at ?h 10 ?e; (case h => assumption); (case e => rfl))
  | (refine' Wd.at ?h 11 ?e; (case h => assumption); (case e => rfl))
  | (refine' Wd.at ?h 12 ?e; (case h => assumption); (case e => rfl))
  | (refine' Wd.at ?h 13 ?e; (case h => assumption); (case e => rfl))
  | (refine' Wd.at ?h 14 ?e; (case h => assumption); (case e => rfl))
  | (refine' Wd.at ?h 15 ?e; (case h => assumption); (case e => rfl))
  | (refine' Wd.at ?h 16 ?e; (case h => assumption); (case e => rfl))
  | (refine' Wd.at ?h 17 ?e; (case h => assumption); (case e => rfl))
  | (refine' Wd.at ?h 18 ?e; (case h => assumption); (case e => rfl))
  | (refine' Wd.at ?h 19 ?e; (case h => assumption); (case e => rfl))))
local macro_rules | `(tactic| walk_at "gen") => `(tactic| (generalize upd _ _ _ = Hn at *))
def top (i : Nat) : Stmt := PySem.Challenge.pw_hushlink_k58_disk_by_a_model.main.body.getD i (.Pass ⟨0, 0, 0, 0⟩)
abbrev s_Disk___init__ : Stmt := inClass (top 7) 0
theorem sc_Disk___init__ : FnScope ["self"] ["self"] (defScope s_Disk___init__) := ⟨rfl, rfl, rfl, by decide +kernel, rfl, by decide +kernel, by decide +kernel⟩
abbrev s_Disk_has_power : Stmt := inClass (top 7) 8
theorem sc_Disk_has_power : FnScope ["self"] ["self"] (defScope s_Disk_has_power) := ⟨rfl, rfl, rfl, by decide +kernel, rfl, by decide +kernel, by decide +kernel⟩
abbrev s_Disk_use_power : Stmt := inClass (top 7) 1
theorem sc_Disk_use_power : FnScope ["self"] ["self"] (defScope s_Disk_use_power) := ⟨rfl, rfl, rfl, by decide +kernel, rfl, by decide +kernel, by decide +kernel⟩
abbrev s_Disk_write : Stmt := inClass (top 7) 2
theorem sc_Disk_write : FnScope ["self", "bank", "data"] ["self", "bank", "data"] (defScope s_Disk_write) := ⟨rfl, rfl, rfl, by decide +kernel, rfl, by decide +kernel, by decide +kernel⟩
abbrev s_Disk_settle : Stmt := inClass (top 7) 3
theorem sc_Disk_settle : FnScope ["self", "bank"] ["self", "bank"] (defScope s_Disk_settle) := ⟨rfl, rfl, rfl, by decide +kernel, rfl, by decide +kernel, by decide +kernel⟩
abbrev s_Disk_pending : Stmt := inClass (top 7) 6
theorem sc_Disk_pending : FnScope ["self"] ["self"] (defScope s_Disk_pending) := ⟨rfl, rfl, rfl, by decide +kernel, rfl, by decide +kernel, by decide +kernel⟩
abbrev s_Disk_cut : Stmt := inClass (top 7) 4
theorem sc_Disk_cut : FnScope ["self", "bank", "length"] ["self", "bank", "length"] (defScope s_Disk_cut) := ⟨rfl, rfl, rfl, by decide +kernel, rfl, by decide +kernel, by decide +kernel⟩
abbrev s_Disk_read : Stmt := inClass (top 7) 5
theorem sc_Disk_read : FnScope ["self", "bank"] ["self", "bank"] (defScope s_Disk_read) := ⟨rfl, rfl, rfl, by decide +kernel, rfl, by decide +kernel, by decide +kernel⟩
abbrev s_Disk_arm : Stmt := inClass (top 7) 7
theorem sc_Disk_arm : FnScope ["self", "deeds"] ["self", "deeds"] (defScope s_Disk_arm) := ⟨rfl, rfl, rfl, by decide +kernel, rfl, by decide +kernel, by decide +kernel⟩
abbrev s_Disk_crashes : Stmt := inClass (top 7) 10
theorem sc_Disk_crashes : FnScope ["self"] ["self"] (defScope s_Disk_crashes) := ⟨rfl, rfl, rfl, by decide +kernel, rfl, by decide +kernel, by decide +kernel⟩
abbrev s_Disk_crash : Stmt := inClass (top 7) 9
theorem sc_Disk_crash : FnScope ["self", "kept", "torn", "bank", "fresh", "stays", "zeros"] ["self", "kept", "torn"] (defScope s_Disk_crash) := ⟨rfl, rfl, rfl, by decide +kernel, rfl, by decide +kernel, by decide +kernel⟩
abbrev s__law_cell : Stmt := top 9
theorem sc__law_cell : FnScope ["_law_script", "_law_k"] ["_law_script", "_law_k"] (defScope s__law_cell) := ⟨rfl, rfl, rfl, by decide +kernel, rfl, by decide +kernel, by decide +kernel⟩
abbrev s__law_row : Stmt := top 11
theorem sc__law_row : FnScope ["_law_cell_here", "_law_count", "_law_row_here", "_law_left", "_law_k", "_law_state"] ["_law_cell_here", "_law_count"] (defScope s__law_row) := ⟨rfl, rfl, rfl, by decide +kernel, rfl, by decide +kernel, by decide +kernel⟩
abbrev s__law_is_integer : Stmt := top 10
theorem sc__law_is_integer : FnScope ["_law_actual"] ["_law_actual"] (defScope s__law_is_integer) := ⟨rfl, rfl, rfl, by decide +kernel, rfl, by decide +kernel, by decide +kernel⟩
abbrev s__law_says : Stmt := top 13
theorem sc__law_says : FnScope ["_law_actual", "_law_expected_here"] ["_law_actual", "_law_expected_here"] (defScope s__law_says) := ⟨rfl, rfl, rfl, by decide +kernel, rfl, by decide +kernel, by decide +kernel⟩
abbrev s__law_word : Stmt := top 14
theorem sc__law_word : FnScope ["_law_disk", "_law_which", "_law_bank", "_law_given", "e", "_law_kinds"] ["_law_disk", "_law_which", "_law_bank", "_law_given"] (defScope s__law_word) := ⟨rfl, rfl, rfl, by decide +kernel, rfl, by decide +kernel, by decide +kernel⟩
abbrev s__law_expected : Stmt := top 15
theorem sc__law_expected : FnScope ["_law_model", "_law_which", "_law_bank", "_law_given", "_law_settled", "_law_waiting"] ["_law_model", "_law_which", "_law_bank", "_law_given"] (defScope s__law_expected) := ⟨rfl, rfl, rfl, by decide +kernel, rfl, by decide +kernel, by decide +kernel⟩
abbrev s__law_crash : Stmt := top 16
theorem sc__law_crash : FnScope ["_law_model", "_law_kept", "_law_torn", "_law_bank", "_law_waiting", "_law_lost"] ["_law_model", "_law_kept", "_law_torn"] (defScope s__law_crash) := ⟨rfl, rfl, rfl, by decide +kernel, rfl, by decide +kernel, by decide +kernel⟩
abbrev s__law_is_same : Stmt := top 17
theorem sc__law_is_same : FnScope ["_law_disk", "_law_model", "_law_bank", "_law_actual"] ["_law_disk", "_law_model"] (defScope s__law_is_same) := ⟨rfl, rfl, rfl, by decide +kernel, rfl, by decide +kernel, by decide +kernel⟩
abbrev s__law_deed : Stmt := top 18
theorem sc__law_deed : FnScope ["_law_disk", "_law_model", "_law_cell_here", "_law_which", "_law_bank", "_law_data", "_law_given", "_law_expected_here", "_law_actual", "_law_length"] ["_law_disk", "_law_model", "_law_cell_here"] (defScope s__law_deed) := ⟨rfl, rfl, rfl, by decide +kernel, rfl, by decide +kernel, by decide +kernel⟩
abbrev s_law : Stmt := top 19
theorem sc_law : FnScope ["_law_script", "_law_disk", "_law_model", "_law_k"] ["_law_script"] (defScope s_law) := ⟨rfl, rfl, rfl, by decide +kernel, rfl, by decide +kernel, by decide +kernel⟩
/-- what the top has written -/
structure Txt (K : PySem.W.Frag) (mg : Str → Option Value) (C_HushError C_OutOfRange C_OutOfOrder C_PowerLost C_Disk : Addr) : Prop where
  n_abs : mg "abs" = none
  n_bool : mg "bool" = none
  n_int : mg "int" = none
  n_isinstance : mg "isinstance" = none
  n_len : mg "len" = none
  n_list : mg "list" = none
  n_min : mg "min" = none
  n_range : mg "range" = none
  g_BANK_SIZE : GV mg "BANK_SIZE" (.int 65536)
  gc_Disk : mg "Disk" = some (.ref C_Disk)
  c_Disk : Cls K C_Disk
  na_Disk__armed : NoAttr K C_Disk "_armed"
  na_Disk__crashes : NoAttr K C_Disk "_crashes"
  na_Disk__deeds : NoAttr K C_Disk "_deeds"
  na_Disk__fresh : NoAttr K C_Disk "_fresh"
  na_Disk__settled : NoAttr K C_Disk "_settled"
  gc_HushError : mg "HushError" = some (.ref C_HushError)
  x_HushError : PySem.W.excIn K C_HushError [.type "ValueError", .type "Exception", .type "BaseException", .type "object"] "ValueError.__new__" = true
  k_HushError : PySem.W.keepIn K (.ref C_HushError) = true
  b_HushError : PySem.W.subIn K (.ref C_HushError) (.type "BaseException") = some true
  t_HushError : PySem.W.typeIn K (.ref C_HushError) = some (.type "type")
  h_HushError : PySem.W.hasDictIn K C_HushError = true
  gc_OutOfRange : mg "OutOfRange" = some (.ref C_OutOfRange)
  x_OutOfRange : PySem.W.excIn K C_OutOfRange [.type "ValueError", .type "Exception", .type "BaseException", .type "object"] "ValueError.__new__" = true
  k_OutOfRange : PySem.W.keepIn K (.ref C_OutOfRange) = true
  b_OutOfRange : PySem.W.subIn K (.ref C_OutOfRange) (.type "BaseException") = some true
  t_OutOfRange : PySem.W.typeIn K (.ref C_OutOfRange) = some (.type "type")
  h_OutOfRange : PySem.W.hasDictIn K C_OutOfRange = true
  gc_OutOfOrder : mg "OutOfOrder" = some (.ref C_OutOfOrder)
  x_OutOfOrder : PySem.W.excIn K C_OutOfOrder [.type "ValueError", .type "Exception", .type "BaseException", .type "object"] "ValueError.__new__" = true
  k_OutOfOrder : PySem.W.keepIn K (.ref C_OutOfOrder) = true
  b_OutOfOrder : PySem.W.subIn K (.ref C_OutOfOrder) (.type "BaseException") = some true
  t_OutOfOrder : PySem.W.typeIn K (.ref C_OutOfOrder) = some (.type "type")
  h_OutOfOrder : PySem.W.hasDictIn K C_OutOfOrder = true
  gc_PowerLost : mg "PowerLost" = some (.ref C_PowerLost)
  x_PowerLost : PySem.W.excIn K C_PowerLost [.type "ValueError", .type "Exception", .type "BaseException", .type "object"] "ValueError.__new__" = true
  k_PowerLost : PySem.W.keepIn K (.ref C_PowerLost) = true
  b_PowerLost : PySem.W.subIn K (.ref C_PowerLost) (.type "BaseException") = some true
  t_PowerLost : PySem.W.typeIn K (.ref C_PowerLost) = some (.type "type")
  h_PowerLost : PySem.W.hasDictIn K C_PowerLost = true
  su_PowerLost_HushError : PySem.W.subIn K (.ref C_PowerLost) (.ref C_HushError) = some true
  su_OutOfOrder_HushError : PySem.W.subIn K (.ref C_OutOfOrder) (.ref C_HushError) = some true
  su_OutOfRange_HushError : PySem.W.subIn K (.ref C_OutOfRange) (.ref C_HushError) = some true
  ec_PowerLost : ExcC K C_PowerLost
  ec_OutOfOrder : ExcC K C_OutOfOrder
  ec_OutOfRange : ExcC K C_OutOfRange
  ki_PowerLost_PowerLost : PySem.W.kitOne K (.ref C_PowerLost) (.ref C_PowerLost) = some true
  ki_PowerLost_OutOfOrder : PySem.W.kitOne K (.ref C_PowerLost) (.ref C_OutOfOrder) = some false
  ki_PowerLost_OutOfRange : PySem.W.kitOne K (.ref C_PowerLost) (.ref C_OutOfRange) = some false
  ki_OutOfOrder_PowerLost : PySem.W.kitOne K (.ref C_OutOfOrder) (.ref C_PowerLost) = some false
  ki_OutOfOrder_OutOfOrder : PySem.W.kitOne K (.ref C_OutOfOrder) (.ref C_OutOfOrder) = some true
  ki_OutOfOrder_OutOfRange : PySem.W.kitOne K (.ref C_OutOfOrder) (.ref C_OutOfRange) = some false
  ki_OutOfRange_PowerLost : PySem.W.kitOne K (.ref C_OutOfRange) (.ref C_PowerLost) = some false
  ki_OutOfRange_OutOfOrder : PySem.W.kitOne K (.ref C_OutOfRange) (.ref C_OutOfOrder) = some false
  ki_OutOfRange_OutOfRange : PySem.W.kitOne K (.ref C_OutOfRange) (.ref C_OutOfRange) = some true
section
variable {P : Program} {w : World} {K : PySem.W.Frag} {mg : Str → Option Value} {base : Heap} {C_HushError C_OutOfRange C_OutOfOrder C_PowerLost C_Disk : Addr}
theorem ok_Disk___init__ {f : Addr} {fd : FuncData} (F : Fun K "__init__" "Disk.__init__" s_Disk___init__ f fd) (T : Txt K mg C_HushError C_OutOfRange C_OutOfOrder C_PowerLost C_Disk)  :
    FnOk P w K mg base (L2.CX P w) 1 f fd ["self"] (spInit C_Disk) := by
  refine F.okX sc_Disk___init__ (fun vs H Q E h => ?_) (fun cdv A outer s H vs Q E hr h => ⟨_, (pss_cons (ps_fldK (K := K) (pv 0) (pe_lst (pa_cons (pe_lst pa_nil) (pa_cons (pe_lst pa_nil) pa_nil))) rfl)
      (pss_cons (ps_fldK (K := K) (pv 0) (pe_lst (pa_cons (pe_lst pa_nil) (pa_cons (pe_lst pa_nil) pa_nil))) rfl)
      (pss_cons (ps_fldK (K := K) (pv 0) pe_bl rfl)
      (pss_cons (ps_fldK (K := K) (pv 0) pe_int rfl)
      (pss_one (ps_fldK (K := K) (pv 0) pe_int rfl)))))), ?_⟩)
  · obtain ⟨d, dx, B, M, rfl, hH, k⟩ := h <;> rfl
  obtain ⟨d, dx, B, M, rfl, hH, k⟩ := h
  refine ⟨by show 0 ≤ sizeLine; decide, fun p0 n0 => ?_⟩
  have hH := hH.add (o := .lst []) n0
  refine ⟨by show 0 ≤ sizeLine; decide, fun p1 n1 => ?_⟩
  have hH := hH.add (o := .lst []) n1
  refine ⟨by show 2 ≤ sizeLine; decide, fun p2 n2 => ?_⟩
  have hH := hH.add (o := .lst [.ref p0, .ref p1]) n2
  refine ⟨_, rfl, _, _, _, _, rfl, hH.at 3 rfl, T.c_Disk, T.na_Disk__settled, Nat.le_of_ble_eq_true rfl, ?_⟩
  have hH := hH.put 3 (o := .ins C_Disk dx [("_settled", .ref p2)]) rfl
  refine ⟨by show 0 ≤ sizeLine; decide, fun p3 n3 => ?_⟩
  have hH := hH.add (o := .lst []) n3
  refine ⟨by show 0 ≤ sizeLine; decide, fun p4 n4 => ?_⟩
  have hH := hH.add (o := .lst []) n4
  refine ⟨by show 2 ≤ sizeLine; decide, fun p5 n5 => ?_⟩
  have hH := hH.add (o := .lst [.ref p3, .ref p4]) n5
  refine ⟨_, rfl, _, _, _, _, rfl, hH.at 6 rfl, T.c_Disk, T.na_Disk__fresh, Nat.le_of_ble_eq_true rfl, ?_⟩
  have hH := hH.put 6 (o := .ins C_Disk dx [("_settled", .ref p2), ("_fresh", .ref p5)]) rfl
  refine ⟨_, rfl, _, _, _, _, rfl, hH.at 6 rfl, T.c_Disk, T.na_Disk__armed, Nat.le_of_ble_eq_true rfl, ?_⟩
  have hH := hH.put 6 (o := .ins C_Disk dx [("_settled", .ref p2), ("_fresh", .ref p5), ("_armed", .bl false)]) rfl
  refine ⟨_, rfl, _, _, _, _, rfl, hH.at 6 rfl, T.c_Disk, T.na_Disk__deeds, Nat.le_of_ble_eq_true rfl, ?_⟩
  have hH := hH.put 6 (o := .ins C_Disk dx [("_settled", .ref p2), ("_fresh", .ref p5), ("_armed", .bl false), ("_deeds", .int 0)]) rfl
  refine ⟨_, rfl, _, _, _, _, rfl, hH.at 6 rfl, T.c_Disk, T.na_Disk__crashes, Nat.le_of_ble_eq_true rfl, ?_⟩
  have hH := hH.put 6 (o := .ins C_Disk dx (dF ⟨dx, p2, p5, p0, p1, p3, p4⟩ false 0 ⟨[], [], [], [], -1, 0⟩)) rfl
  refine k ⟨dx, p2, p5, p0, p1, p3, p4⟩ _ ?_
  exact Wd.pick (L := [_, _, _, _, _, _, _]) hH [6, 3, 0, 5, 4, 2, 1] (by decide) rfl
theorem ok_Disk_has_power {f : Addr} {fd : FuncData} (F : Fun K "has_power" "Disk.has_power" s_Disk_has_power f fd) (T : Txt K mg C_HushError C_OutOfRange C_OutOfOrder C_PowerLost C_Disk)  :
    FnOk P w K mg base (L2.CX P w) 1 f fd ["self"] (spHas C_Disk) := by
  refine F.okX sc_Disk_has_power (fun vs H Q E h => ?_) (fun cdv A outer s H vs Q E hr h => ⟨_, (pss_one (ps_ret (pe_or (pe_not (pe_fldK (K := K) (pv 0) rfl)) (pe_one (pe_cmpR op_gt (pe_fldK (K := K) (pv 0) rfl) pe_int (nomark _)))))), ?_⟩)
  · obtain ⟨d, t, ar, de, m, B, M, rfl, hR, hH, k⟩ := h <;> rfl
  obtain ⟨d, t, ar, de, m, B, M, rfl, hR, hH, k⟩ := h
  refine ⟨_, rfl, _, _, _, _, _, rfl, hH.at 0 rfl, T.c_Disk, T.na_Disk__armed, rfl, _, rfl, _, rfl, ?_⟩
  cases ar with
  | false =>
    have hR' : m.left = -1 := hR
    refine iteT ?_
    rw [hR'] at k
    exact k
  | true =>
    have hR' : de = m.left ∧ 0 ≤ de := hR
    refine iteF ?_
    refine ⟨_, rfl, _, _, _, _, _, rfl, hH.at 0 rfl, T.c_Disk, T.na_Disk__deeds, rfl, _, _, rfl, rfl, ?_⟩
    have e : decide (m.left ≠ 0) = decide (0 < de) := decide_eq_decide.mpr (by omega)
    rw [e] at k
    exact k
theorem ok_Disk_use_power {f : Addr} {fd : FuncData} (F : Fun K "use_power" "Disk.use_power" s_Disk_use_power f fd) (T : Txt K mg C_HushError C_OutOfRange C_OutOfOrder C_PowerLost C_Disk) (GM_Disk_has_power : GM P w K mg base C_Disk "has_power" 1 ["self"] (spHas C_Disk)) :
    FnOk P w K mg base (L2.CX P w) 2 f fd ["self"] (spUse C_Disk C_PowerLost) := by
  refine F.okX sc_Disk_use_power (fun vs H Q E h => ?_) (fun cdv A outer s H vs Q E hr h => ⟨_, (pss_cons (ps_if (pt_not (pt_val (pe_methG0 (pv 0) T.c_Disk GM_Disk_has_power (hr.mono (by decide)) (takes_of rfl rfl rfl rfl))))
      (pss_one (ps_raise rfl (takes_of rfl rfl rfl rfl) (pmk_own PySem.F.excBase_ValueError T.x_PowerLost T.gc_PowerLost T.k_PowerLost (raises_own T.b_PowerLost T.t_PowerLost) (by exact rfl))))
      pss_nil)
      (pss_one (ps_if (pt_val (pe_fldK (K := K) (pv 0) rfl))
      (pss_one (ps_fldaugK (K := K) (pv 0) pe_int in_sub))
      pss_nil))), ?_⟩)
  · obtain ⟨d, t, ar, de, m, B, M, rfl, hR, hH, kE, kQ⟩ := h <;> rfl
  obtain ⟨d, t, ar, de, m, B, M, rfl, hR, hH, kE, kQ⟩ := h
  refine ⟨_, rfl, _, _, _, rfl, hH.at 0 rfl, rfl, _, t, ar, de, m, B, M, rfl, hR, hH, _, rfl, ?_⟩
  refine ite2 (fun c => ?_) (fun c => ?_)
  · have c' : m.left = 0 := by simpa using c
    exact kE c'
  · have c' : m.left ≠ 0 := by simpa using c
    refine ⟨_, rfl, _, _, _, _, _, rfl, hH.at 0 rfl, T.c_Disk, T.na_Disk__armed, rfl, _, rfl, ?_⟩
    cases ar with
    | false =>
      have hR' : m.left = -1 := hR
      have e : m.use = m := by unfold AM.use; rw [if_neg (by omega)]
      rw [e] at kQ
      exact iteF (kQ c' de H hR hH)
    | true =>
      have hR' : de = m.left ∧ 0 ≤ de := hR
      have e : m.use = { m with left := m.left - 1 } := by unfold AM.use; rw [if_pos (by omega)]
      rw [e] at kQ
      refine iteT ?_
      refine ⟨_, rfl, _, _, _, _, _, rfl, hH.at 0 rfl, T.c_Disk, T.na_Disk__deeds, rfl, _, _, rfl, rfl, _, _, hH.at 0 rfl, (by show 5 < 1000; decide), ?_⟩
      refine kQ c' (de - 1) _ (by show _ ∧ _; exact ⟨by show de - 1 = m.left - 1; omega, by omega⟩) ?_
      exact hH.put 0 rfl
theorem ok_Disk_write {f : Addr} {fd : FuncData} (F : Fun K "write" "Disk.write" s_Disk_write f fd) (T : Txt K mg C_HushError C_OutOfRange C_OutOfOrder C_PowerLost C_Disk) (GM_Disk_use_power : GM P w K mg base C_Disk "use_power" 2 ["self"] (spUse C_Disk C_PowerLost)) :
    FnOk P w K mg base (L2.CX P w) 3 f fd ["self", "bank", "data"] (spWrite C_Disk C_PowerLost C_OutOfOrder C_OutOfRange) := by
  refine F.okX sc_Disk_write (fun vs H Q E h => ?_) (fun cdv A outer s H vs Q E hr h => ⟨_, (pss_cons (ps_expr (pe_methG0 (pv 0) T.c_Disk GM_Disk_use_power (hr.mono (by decide)) (takes_of rfl rfl rfl rfl)))
      (pss_cons (ps_if (pt_cmpR op_gt (pe_callB (call_lenK (K := K)) (by rfl) T.n_len (by decide +kernel) (pa_cons (pe_ix (ix_listK (K := K)) (pe_fldK (K := K) (pv 0) rfl) (pe_op op_sub pe_int (pv 1)) (fun _ _ => rfl)) pa_nil)) pe_int (nomark _))
      (pss_one (ps_raise rfl (takes_of rfl rfl rfl rfl) (pmk_own PySem.F.excBase_ValueError T.x_OutOfOrder T.gc_OutOfOrder T.k_OutOfOrder (raises_own T.b_OutOfOrder T.t_OutOfOrder) (by exact rfl))))
      pss_nil)
      (pss_cons (ps_if (pt_cmpR op_gt (pe_op op_add (pe_op op_add (pe_callB (call_lenK (K := K)) (by rfl) T.n_len (by decide +kernel) (pa_cons (pe_ix (ix_listK (K := K)) (pe_fldK (K := K) (pv 0) rfl) (pv 1) (fun _ _ => rfl)) pa_nil)) (pe_callB (call_lenK (K := K)) (by rfl) T.n_len (by decide +kernel) (pa_cons (pe_ix (ix_listK (K := K)) (pe_fldK (K := K) (pv 0) rfl) (pv 1) (fun _ _ => rfl)) pa_nil))) (pe_callB (call_lenK (K := K)) (by rfl) T.n_len (by decide +kernel) (pa_cons (pv 2) pa_nil))) (pe_globV T.g_BANK_SIZE) (nomark _))
      (pss_one (ps_raise rfl (takes_of rfl rfl rfl rfl) (pmk_own PySem.F.excBase_ValueError T.x_OutOfRange T.gc_OutOfRange T.k_OutOfRange (raises_own T.b_OutOfRange T.t_OutOfRange) (by exact rfl))))
      pss_nil)
      (pss_one (ps_expr (pe_bmK (K := K) PySem.F.plainAttrs_list PySem.F.slot_list_extend PySem.F.type_list_extend mt_extend (pe_ix (ix_listK (K := K)) (pe_fldK (K := K) (pv 0) rfl) (pv 1) (fun _ _ => rfl)) (pa_cons (pv 2) pa_nil))))))), ?_⟩)
  · obtain ⟨d, t, ar, de, m, B, M, b, a, xs, rfl, ok, hR, hH, k⟩ := h <;> rfl
  obtain ⟨d, t, ar, de, m, B, M, b, a, xs, rfl, ok, hR, hH, k⟩ := h
  refine ⟨_, rfl, _, _, _, rfl, hH.at 0 rfl, rfl, d, t, ar, de, m, B, _, rfl, hR, hH, fun c => ?_, fun c de2 H2 hR hH => ?_⟩
  · have e : m.write b xs = (m, 1) := by unfold AM.write; rw [if_pos c]
    rw [e] at k
    exact k _ _ _ _ hR hH
  have l1 := ok_s (use_ok ok) b
  by_cases c1 : (m.use.f (!b)).length > 0
  · have e : m.write b xs = (m.use, 2) := by unfold AM.write; rw [if_neg c, if_pos c1]
    rw [e] at k
    cases b
    all_goals
      refine ⟨_, rfl, _, _, _, _, _, rfl, hH.at 0 rfl, T.c_Disk, T.na_Disk__fresh, rfl, _, rfl, _, _, rfl, rfl, _, _, _, _, rfl, rfl, sqL_of (hH.at 2 rfl), rfl, _, _, rfl, .inl (sqL_of (by walk_at "hp")), _, _, rfl, rfl, _, rfl, ?_⟩
      exact iteP c1 (pos_len _) (k _ _ _ _ hR hH)
  by_cases c2 : (m.use.s b).length + (m.use.f b).length + xs.length > 65536
  · have e : m.write b xs = (m.use, 3) := by unfold AM.write; rw [if_neg c, if_neg c1, if_pos c2]
    rw [e] at k
    cases b
    all_goals
      refine ⟨_, rfl, _, _, _, _, _, rfl, hH.at 0 rfl, T.c_Disk, T.na_Disk__fresh, rfl, _, rfl, _, _, rfl, rfl, _, _, _, _, rfl, rfl, sqL_of (hH.at 2 rfl), rfl, _, _, rfl, .inl (sqL_of (by walk_at "hp")), _, _, rfl, rfl, _, rfl, ?_⟩
      refine iteN c1 (pos_len _) ?_
      refine ⟨_, rfl, _, _, _, _, _, rfl, hH.at 0 rfl, T.c_Disk, T.na_Disk__settled, rfl, _, rfl, _, _, _, _, rfl, rfl, sqL_of (hH.at 1 rfl), rfl, _, _, rfl, .inl (sqL_of (by walk_at "hp")), _, rfl, _, _, _, _, _, rfl, hH.at 0 rfl, T.c_Disk, T.na_Disk__fresh, rfl, _, rfl, _, _, _, _, rfl, rfl, sqL_of (hH.at 2 rfl), rfl, _, _, rfl, .inl (sqL_of (by walk_at "hp")), _, _, rfl, rfl, _, rfl, _, _, rfl, .inl (sqL_of (by walk_at "hp")), _, _, rfl, rfl, _, _, rfl, rfl, _, rfl, ?_⟩
      exact iteP c2 (len3 _ _ _ 65536) (k _ _ _ _ hR hH)
  · have e : m.write b xs = (m.use.setF b (m.use.f b ++ xs), 0) := by unfold AM.write; rw [if_neg c, if_neg c1, if_neg c2]
    rw [e] at k
    cases b
    · refine ⟨_, rfl, _, _, _, _, _, rfl, hH.at 0 rfl, T.c_Disk, T.na_Disk__fresh, rfl, _, rfl, _, _, rfl, rfl, _, _, _, _, rfl, rfl, sqL_of (hH.at 2 rfl), rfl, _, _, rfl, .inl (sqL_of (by walk_at "hp")), _, _, rfl, rfl, _, rfl, ?_⟩
      refine iteN c1 (pos_len _) ?_
      refine ⟨_, rfl, _, _, _, _, _, rfl, hH.at 0 rfl, T.c_Disk, T.na_Disk__settled, rfl, _, rfl, _, _, _, _, rfl, rfl, sqL_of (hH.at 1 rfl), rfl, _, _, rfl, .inl (sqL_of (by walk_at "hp")), _, rfl, _, _, _, _, _, rfl, hH.at 0 rfl, T.c_Disk, T.na_Disk__fresh, rfl, _, rfl, _, _, _, _, rfl, rfl, sqL_of (hH.at 2 rfl), rfl, _, _, rfl, .inl (sqL_of (by walk_at "hp")), _, _, rfl, rfl, _, rfl, _, _, rfl, .inl (sqL_of (by walk_at "hp")), _, _, rfl, rfl, _, _, rfl, rfl, _, rfl, ?_⟩
      refine iteN c2 (len3 _ _ _ 65536) ?_
      refine ⟨_, rfl, _, _, _, _, _, rfl, hH.at 0 rfl, T.c_Disk, T.na_Disk__fresh, rfl, _, rfl, _, _, _, _, rfl, rfl, sqL_of (hH.at 2 rfl), rfl, .inl ⟨rfl, _, (sqL_of (by walk_at "hp"))⟩, _, rfl, _, _, _, _, rfl, rfl, hH.at 5 rfl, hH.at 7 rfl, ?_, ?_⟩
      · rw [List.length_map, List.length_map]
        exact sz_le (by have z : ¬ m.use.s0.length + m.use.f0.length + xs.length > 65536 := c2; omega)
      · refine k _ _ t _ hR ?_
        have hH := hH.put 5 (o := isL (m.use.f0 ++ xs)) rfl
        rw [isL_cat]
        exact hH
    · refine ⟨_, rfl, _, _, _, _, _, rfl, hH.at 0 rfl, T.c_Disk, T.na_Disk__fresh, rfl, _, rfl, _, _, rfl, rfl, _, _, _, _, rfl, rfl, sqL_of (hH.at 2 rfl), rfl, _, _, rfl, .inl (sqL_of (by walk_at "hp")), _, _, rfl, rfl, _, rfl, ?_⟩
      refine iteN c1 (pos_len _) ?_
      refine ⟨_, rfl, _, _, _, _, _, rfl, hH.at 0 rfl, T.c_Disk, T.na_Disk__settled, rfl, _, rfl, _, _, _, _, rfl, rfl, sqL_of (hH.at 1 rfl), rfl, _, _, rfl, .inl (sqL_of (by walk_at "hp")), _, rfl, _, _, _, _, _, rfl, hH.at 0 rfl, T.c_Disk, T.na_Disk__fresh, rfl, _, rfl, _, _, _, _, rfl, rfl, sqL_of (hH.at 2 rfl), rfl, _, _, rfl, .inl (sqL_of (by walk_at "hp")), _, _, rfl, rfl, _, rfl, _, _, rfl, .inl (sqL_of (by walk_at "hp")), _, _, rfl, rfl, _, _, rfl, rfl, _, rfl, ?_⟩
      refine iteN c2 (len3 _ _ _ 65536) ?_
      refine ⟨_, rfl, _, _, _, _, _, rfl, hH.at 0 rfl, T.c_Disk, T.na_Disk__fresh, rfl, _, rfl, _, _, _, _, rfl, rfl, sqL_of (hH.at 2 rfl), rfl, .inl ⟨rfl, _, (sqL_of (by walk_at "hp"))⟩, _, rfl, _, _, _, _, rfl, rfl, hH.at 6 rfl, hH.at 7 rfl, ?_, ?_⟩
      · rw [List.length_map, List.length_map]
        exact sz_le (by have z : ¬ m.use.s1.length + m.use.f1.length + xs.length > 65536 := c2; omega)
      · refine k _ _ t _ hR ?_
        have hH := hH.put 6 (o := isL (m.use.f1 ++ xs)) rfl
        rw [isL_cat]
        exact hH
theorem ok_Disk_settle {f : Addr} {fd : FuncData} (F : Fun K "settle" "Disk.settle" s_Disk_settle f fd) (T : Txt K mg C_HushError C_OutOfRange C_OutOfOrder C_PowerLost C_Disk) (GM_Disk_use_power : GM P w K mg base C_Disk "use_power" 2 ["self"] (spUse C_Disk C_PowerLost)) :
    FnOk P w K mg base (L2.CX P w) 3 f fd ["self", "bank"] (spSettle C_Disk C_PowerLost C_OutOfOrder C_OutOfRange) := by
  refine F.okX sc_Disk_settle (fun vs H Q E h => ?_) (fun cdv A outer s H vs Q E hr h => ⟨_, (pss_cons (ps_expr (pe_methG0 (pv 0) T.c_Disk GM_Disk_use_power (hr.mono (by decide)) (takes_of rfl rfl rfl rfl)))
      (pss_cons (ps_expr (pe_bmK (K := K) PySem.F.plainAttrs_list PySem.F.slot_list_extend PySem.F.type_list_extend mt_extend (pe_ix (ix_listK (K := K)) (pe_fldK (K := K) (pv 0) rfl) (pv 1) (fun _ _ => rfl)) (pa_cons (pe_ix (ix_listK (K := K)) (pe_fldK (K := K) (pv 0) rfl) (pv 1) (fun _ _ => rfl)) pa_nil)))
      (pss_one (ps_asg (pe_lst pa_nil) (pg_sub (pe_fldK (K := K) (pv 0) rfl) (pv 1) set_list))))), ?_⟩)
  · obtain ⟨d, t, ar, de, m, B, M, b, rfl, ok, hR, hH, k⟩ := h <;> rfl
  obtain ⟨d, t, ar, de, m, B, M, b, rfl, ok, hR, hH, k⟩ := h
  refine ⟨_, rfl, _, _, _, rfl, hH.at 0 rfl, rfl, d, t, ar, de, m, B, _, rfl, hR, hH, fun c => ?_, fun c de2 H2 hR hH => ?_⟩
  · have e : m.settle b = (m, 1) := by unfold AM.settle; rw [if_pos c]
    rw [e] at k
    exact k _ _ _ _ hR hH
  have l1 := ok_s (use_ok ok) b
  have e : m.settle b = ((m.use.setS b (m.use.s b ++ m.use.f b)).setF b [], 0) := by unfold AM.settle; rw [if_neg c]
  rw [e] at k
  cases b
  · refine ⟨_, rfl, _, _, _, _, _, rfl, hH.at 0 rfl, T.c_Disk, T.na_Disk__settled, rfl, _, rfl, _, _, _, _, rfl, rfl, sqL_of (hH.at 1 rfl), rfl, .inl ⟨rfl, _, (sqL_of (by walk_at "hp"))⟩, _, rfl, _, _, _, _, _, rfl, hH.at 0 rfl, T.c_Disk, T.na_Disk__fresh, rfl, _, rfl, _, _, _, _, rfl, rfl, sqL_of (hH.at 2 rfl), rfl, _, _, _, _, rfl, rfl, hH.at 3 rfl, hH.at 5 rfl, ?_, ?_⟩
    · rw [List.length_map, List.length_map]
      exact sz_le (by simp only [AM.s, AM.f] at l1; exact Nat.le_trans l1 (by decide))
    rw [isL_cat]
    have hH := hH.put 3 (o := isL (m.use.s0 ++ m.use.f0)) rfl
    refine ⟨by show 0 ≤ sizeLine; decide, fun p hp => ?_⟩
    have hH := hH.add (o := isL []) hp
    refine ⟨_, rfl, _, _, _, _, _, rfl, hH.at 1 rfl, T.c_Disk, T.na_Disk__fresh, rfl, _, rfl, _, _, _, _, rfl, rfl, hH.at 3 rfl, rfl, ?_⟩
    have hH := hH.put 3 (o := .lst [.ref p, .ref t.f1]) rfl
    refine k ar de2 { t with f0 := p } _ hR ?_
    exact Wd.pick (L := [_, _, _, _, _, _, _, _]) hH [1,2,3,4,5,0,7] (by decide) rfl
  · refine ⟨_, rfl, _, _, _, _, _, rfl, hH.at 0 rfl, T.c_Disk, T.na_Disk__settled, rfl, _, rfl, _, _, _, _, rfl, rfl, sqL_of (hH.at 1 rfl), rfl, .inl ⟨rfl, _, (sqL_of (by walk_at "hp"))⟩, _, rfl, _, _, _, _, _, rfl, hH.at 0 rfl, T.c_Disk, T.na_Disk__fresh, rfl, _, rfl, _, _, _, _, rfl, rfl, sqL_of (hH.at 2 rfl), rfl, _, _, _, _, rfl, rfl, hH.at 4 rfl, hH.at 6 rfl, ?_, ?_⟩
    · rw [List.length_map, List.length_map]
      exact sz_le (by simp only [AM.s, AM.f] at l1; exact Nat.le_trans l1 (by decide))
    rw [isL_cat]
    have hH := hH.put 4 (o := isL (m.use.s1 ++ m.use.f1)) rfl
    refine ⟨by show 0 ≤ sizeLine; decide, fun p hp => ?_⟩
    have hH := hH.add (o := isL []) hp
    refine ⟨_, rfl, _, _, _, _, _, rfl, hH.at 1 rfl, T.c_Disk, T.na_Disk__fresh, rfl, _, rfl, _, _, _, _, rfl, rfl, hH.at 3 rfl, rfl, ?_⟩
    have hH := hH.put 3 (o := .lst [.ref t.f0, .ref p]) rfl
    refine k ar de2 { t with f1 := p } _ hR ?_
    exact Wd.pick (L := [_, _, _, _, _, _, _, _]) hH [1,2,3,4,5,6,0] (by decide) rfl
theorem ok_Disk_pending {f : Addr} {fd : FuncData} (F : Fun K "pending" "Disk.pending" s_Disk_pending f fd) (T : Txt K mg C_HushError C_OutOfRange C_OutOfOrder C_PowerLost C_Disk)  :
    FnOk P w K mg base (L2.CX P w) 1 f fd ["self"] (spPend C_Disk) := by
  refine F.okX sc_Disk_pending (fun vs H Q E h => ?_) (fun cdv A outer s H vs Q E hr h => ⟨_, (pss_one (ps_ret (pe_op op_add (pe_callB (call_lenK (K := K)) (by rfl) T.n_len (by decide +kernel) (pa_cons (pe_ix (ix_listK (K := K)) (pe_fldK (K := K) (pv 0) rfl) pe_int (fun _ _ => rfl)) pa_nil)) (pe_callB (call_lenK (K := K)) (by rfl) T.n_len (by decide +kernel) (pa_cons (pe_ix (ix_listK (K := K)) (pe_fldK (K := K) (pv 0) rfl) pe_int (fun _ _ => rfl)) pa_nil))))), ?_⟩)
  · obtain ⟨d, t, ar, de, m, B, M, rfl, hH, k⟩ := h <;> rfl
  obtain ⟨d, t, ar, de, m, B, M, rfl, hH, k⟩ := h
  refine ⟨_, rfl, _, _, _, _, _, rfl, hH.at 0 rfl, T.c_Disk, T.na_Disk__fresh, rfl, _, _, _, _, rfl, rfl, sqL_of (hH.at 2 rfl), rfl, _, _, rfl, .inl (sqL_of (by walk_at "hp")), _, rfl, _, _, _, _, _, rfl, hH.at 0 rfl, T.c_Disk, T.na_Disk__fresh, rfl, _, _, _, _, rfl, rfl, sqL_of (hH.at 2 rfl), rfl, _, _, rfl, .inl (sqL_of (by walk_at "hp")), _, _, rfl, rfl, ?_⟩
  rw [List.length_map, List.length_map]
  exact k
theorem ok_Disk_cut {f : Addr} {fd : FuncData} (F : Fun K "cut" "Disk.cut" s_Disk_cut f fd) (T : Txt K mg C_HushError C_OutOfRange C_OutOfOrder C_PowerLost C_Disk) (GM_Disk_use_power : GM P w K mg base C_Disk "use_power" 2 ["self"] (spUse C_Disk C_PowerLost)) (GM_Disk_pending : GM P w K mg base C_Disk "pending" 1 ["self"] (spPend C_Disk)) :
    FnOk P w K mg base (L2.CX P w) 3 f fd ["self", "bank", "length"] (spCut C_Disk C_PowerLost C_OutOfOrder C_OutOfRange) := by
  refine F.okX sc_Disk_cut (fun vs H Q E h => ?_) (fun cdv A outer s H vs Q E hr h => ⟨_, (pss_cons (ps_expr (pe_methG0 (pv 0) T.c_Disk GM_Disk_use_power (hr.mono (by decide)) (takes_of rfl rfl rfl rfl)))
      (pss_cons (ps_if (pt_cmpR op_gt (pe_methG0 (pv 0) T.c_Disk GM_Disk_pending (hr.mono (by decide)) (takes_of rfl rfl rfl rfl)) pe_int (nomark _))
      (pss_one (ps_raise rfl (takes_of rfl rfl rfl rfl) (pmk_own PySem.F.excBase_ValueError T.x_OutOfOrder T.gc_OutOfOrder T.k_OutOfOrder (raises_own T.b_OutOfOrder T.t_OutOfOrder) (by exact rfl))))
      pss_nil)
      (pss_cons (ps_if (PW.pt (pw_or (pt_cmpR op_lt (pv 2) pe_int (nomark _)) (pw_or1 (pt_cmpR op_gt (pv 2) (pe_callB (call_lenK (K := K)) (by rfl) T.n_len (by decide +kernel) (pa_cons (pe_ix (ix_listK (K := K)) (pe_fldK (K := K) (pv 0) rfl) (pv 1) (fun _ _ => rfl)) pa_nil)) (nomark _)))))
      (pss_one (ps_raise rfl (takes_of rfl rfl rfl rfl) (pmk_own PySem.F.excBase_ValueError T.x_OutOfRange T.gc_OutOfRange T.k_OutOfRange (raises_own T.b_OutOfRange T.t_OutOfRange) (by exact rfl))))
      pss_nil)
      (pss_one (ps_asg (pe_slice (sl_listK (K := K)) (pe_ix (ix_listK (K := K)) (pe_fldK (K := K) (pv 0) rfl) (pv 1) (fun _ _ => rfl)) po_none (po_some (pv 2))) (pg_sub (pe_fldK (K := K) (pv 0) rfl) (pv 1) set_list)))))), ?_⟩)
  · obtain ⟨d, t, ar, de, m, B, M, b, n, rfl, ok, hR, hH, k⟩ := h <;> rfl
  obtain ⟨d, t, ar, de, m, B, M, b, n, rfl, ok, hR, hH, k⟩ := h
  refine ⟨_, rfl, _, _, _, rfl, hH.at 0 rfl, rfl, d, t, ar, de, m, B, _, rfl, hR, hH, fun c => ?_, fun c de2 H2 hR hH => ?_⟩
  · have e : m.cut b n = (m, 1) := by unfold AM.cut; rw [if_pos c]
    rw [e] at k
    exact k _ _ _ _ hR hH
  refine ⟨_, rfl, _, _, _, rfl, hH.at 0 rfl, rfl, d, t, ar, de2, m.use, B, _, rfl, hH, _, _, rfl, rfl, _, rfl, ?_⟩
  by_cases c1 : m.use.f0.length + m.use.f1.length > 0
  · have e : m.cut b n = (m.use, 2) := by unfold AM.cut; rw [if_neg c, if_pos c1]
    rw [e] at k
    refine iteP c1 (decide_eq_decide.mpr (by omega)) (k _ _ _ _ hR hH)
  refine iteN c1 (decide_eq_decide.mpr (by omega)) ?_
  by_cases c2 : n < 0
  · have e : m.cut b n = (m.use, 3) := by unfold AM.cut; rw [if_neg c, if_neg c1, if_pos (.inl c2)]
    rw [e] at k
    refine ⟨_, rfl, _, _, rfl, rfl, _, rfl, ?_⟩
    refine iteP c2 rfl ?_
    exact iteT (k _ _ _ _ hR hH)
  refine ⟨_, rfl, _, _, rfl, rfl, _, rfl, ?_⟩
  refine iteN c2 rfl ?_
  by_cases c3 : n > (m.use.s b).length
  · have e : m.cut b n = (m.use, 3) := by unfold AM.cut; rw [if_neg c, if_neg c1, if_pos (.inr c3)]
    rw [e] at k
    cases b
    all_goals
      refine ⟨_, rfl, _, rfl, _, _, _, _, _, rfl, hH.at 0 rfl, T.c_Disk, T.na_Disk__settled, rfl, _, rfl, _, _, _, _, rfl, rfl, sqL_of (hH.at 1 rfl), rfl, _, _, rfl, .inl (sqL_of (by walk_at "hp")), _, _, rfl, rfl, _, rfl, ?_⟩
      refine iteP c3 (by simp only [isL, List.length_map]; rfl) ?_
      exact k _ _ _ _ hR hH
  have e : m.cut b n = (m.use.setS b ((m.use.s b).take n.toNat), 0) := by unfold AM.cut; rw [if_neg c, if_neg c1, if_neg (by omega)]
  rw [e] at k
  cases b
  · refine ⟨_, rfl, _, rfl, _, _, _, _, _, rfl, hH.at 0 rfl, T.c_Disk, T.na_Disk__settled, rfl, _, rfl, _, _, _, _, rfl, rfl, sqL_of (hH.at 1 rfl), rfl, _, _, rfl, .inl (sqL_of (by walk_at "hp")), _, _, rfl, rfl, _, rfl, ?_⟩
    refine iteN c3 (by simp only [isL, List.length_map]; rfl) ?_
    refine ⟨_, rfl, _, _, _, _, _, rfl, hH.at 0 rfl, T.c_Disk, T.na_Disk__settled, rfl, _, rfl, _, _, _, _, rfl, rfl, sqL_of (hH.at 1 rfl), rfl, _, rfl, _, rfl, _, _, rfl, (sqL_of (by walk_at "hp")), fun p hp => ?_⟩
    have e2 : cutV (m.use.s0.map V.int) none (some n) = (m.use.s0.take n.toNat).map V.int := cut_to (by omega)
    rw [e2]
    have hH := hH.add (o := isL (m.use.s0.take n.toNat)) hp
    refine ⟨_, rfl, _, _, _, _, _, rfl, hH.at 1 rfl, T.c_Disk, T.na_Disk__settled, rfl, _, rfl, _, _, _, _, rfl, rfl, hH.at 2 rfl, rfl, ?_⟩
    have hH := hH.put 2 (o := .lst [.ref p, .ref t.s1]) rfl
    refine k ar de2 { t with s0 := p } _ hR ?_
    exact Wd.pick (L := [_, _, _, _, _, _, _, _]) hH [1,2,3,0,5,6,7] (by decide) rfl
  · refine ⟨_, rfl, _, rfl, _, _, _, _, _, rfl, hH.at 0 rfl, T.c_Disk, T.na_Disk__settled, rfl, _, rfl, _, _, _, _, rfl, rfl, sqL_of (hH.at 1 rfl), rfl, _, _, rfl, .inl (sqL_of (by walk_at "hp")), _, _, rfl, rfl, _, rfl, ?_⟩
    refine iteN c3 (by simp only [isL, List.length_map]; rfl) ?_
    refine ⟨_, rfl, _, _, _, _, _, rfl, hH.at 0 rfl, T.c_Disk, T.na_Disk__settled, rfl, _, rfl, _, _, _, _, rfl, rfl, sqL_of (hH.at 1 rfl), rfl, _, rfl, _, rfl, _, _, rfl, (sqL_of (by walk_at "hp")), fun p hp => ?_⟩
    have e2 : cutV (m.use.s1.map V.int) none (some n) = (m.use.s1.take n.toNat).map V.int := cut_to (by omega)
    rw [e2]
    have hH := hH.add (o := isL (m.use.s1.take n.toNat)) hp
    refine ⟨_, rfl, _, _, _, _, _, rfl, hH.at 1 rfl, T.c_Disk, T.na_Disk__settled, rfl, _, rfl, _, _, _, _, rfl, rfl, hH.at 2 rfl, rfl, ?_⟩
    have hH := hH.put 2 (o := .lst [.ref t.s0, .ref p]) rfl
    refine k ar de2 { t with s1 := p } _ hR ?_
    exact Wd.pick (L := [_, _, _, _, _, _, _, _]) hH [1,2,3,4,0,6,7] (by decide) rfl
theorem ok_Disk_read {f : Addr} {fd : FuncData} (F : Fun K "read" "Disk.read" s_Disk_read f fd) (T : Txt K mg C_HushError C_OutOfRange C_OutOfOrder C_PowerLost C_Disk)  :
    FnOk P w K mg base (L2.CX P w) 1 f fd ["self", "bank"] (spRead C_Disk) := by
  refine F.okX sc_Disk_read (fun vs H Q E h => ?_) (fun cdv A outer s H vs Q E hr h => ⟨_, (pss_one (ps_ret (pe_op op_cat (pe_ix (ix_listK (K := K)) (pe_fldK (K := K) (pv 0) rfl) (pv 1) (fun _ _ => rfl)) (pe_ix (ix_listK (K := K)) (pe_fldK (K := K) (pv 0) rfl) (pv 1) (fun _ _ => rfl))))), ?_⟩)
  · obtain ⟨d, t, ar, de, m, B, M, b, rfl, ok, hH, k⟩ := h <;> rfl
  obtain ⟨d, t, ar, de, m, B, M, b, rfl, ok, hH, k⟩ := h
  have l1 := ok_s ok b
  cases b
  · refine ⟨_, rfl, _, _, _, _, _, rfl, hH.at 0 rfl, T.c_Disk, T.na_Disk__settled, rfl, _, rfl, _, _, _, _, rfl, rfl, sqL_of (hH.at 1 rfl), rfl, _, rfl, _, _, _, _, _, rfl, hH.at 0 rfl, T.c_Disk, T.na_Disk__fresh, rfl, _, rfl, _, _, _, _, rfl, rfl, sqL_of (hH.at 2 rfl), rfl, _, _, _, _, rfl, rfl, hH.at 3 rfl, hH.at 5 rfl, ?_, fun p hp => ?_⟩
    · rw [List.length_map, List.length_map]
      exact sz_le (Nat.le_trans l1 (by decide))
    rw [isL_cat]
    exact k p _ (hH.add hp)
  · refine ⟨_, rfl, _, _, _, _, _, rfl, hH.at 0 rfl, T.c_Disk, T.na_Disk__settled, rfl, _, rfl, _, _, _, _, rfl, rfl, sqL_of (hH.at 1 rfl), rfl, _, rfl, _, _, _, _, _, rfl, hH.at 0 rfl, T.c_Disk, T.na_Disk__fresh, rfl, _, rfl, _, _, _, _, rfl, rfl, sqL_of (hH.at 2 rfl), rfl, _, _, _, _, rfl, rfl, hH.at 4 rfl, hH.at 6 rfl, ?_, fun p hp => ?_⟩
    · rw [List.length_map, List.length_map]
      exact sz_le (Nat.le_trans l1 (by decide))
    rw [isL_cat]
    exact k p _ (hH.add hp)
theorem ok_Disk_arm {f : Addr} {fd : FuncData} (F : Fun K "arm" "Disk.arm" s_Disk_arm f fd) (T : Txt K mg C_HushError C_OutOfRange C_OutOfOrder C_PowerLost C_Disk) (GM_Disk_has_power : GM P w K mg base C_Disk "has_power" 1 ["self"] (spHas C_Disk)) :
    FnOk P w K mg base (L2.CX P w) 2 f fd ["self", "deeds"] (spArm C_Disk) := by
  refine F.okX sc_Disk_arm (fun vs H Q E h => ?_) (fun cdv A outer s H vs Q E hr h => ⟨_, (pss_one (ps_if (pt_val (pe_methG0 (pv 0) T.c_Disk GM_Disk_has_power (hr.mono (by decide)) (takes_of rfl rfl rfl rfl)))
      (pss_cons (ps_fldK (K := K) (pv 0) pe_bl rfl)
      (pss_one (ps_fldK (K := K) (pv 0) (pv 1) rfl)))
      pss_nil)), ?_⟩)
  · obtain ⟨d, t, ar, de, m, B, M, n, rfl, h0, hR, hH, k⟩ := h <;> rfl
  obtain ⟨d, t, ar, de, m, B, M, n, rfl, h0, hR, hH, k⟩ := h
  refine ⟨_, rfl, _, _, _, rfl, hH.at 0 rfl, rfl, d, t, ar, de, m, B, _, rfl, hR, hH, _, rfl, ?_⟩
  refine ite2 (fun c => ?_) (fun c => ?_)
  · have c' : m.left ≠ 0 := by simpa using c
    have e : m.arm n = { m with left := n } := by unfold AM.arm; rw [if_neg c']
    rw [e] at k
    refine ⟨_, rfl, _, _, _, _, rfl, hH.at 0 rfl, T.c_Disk, T.na_Disk__armed, Nat.le_of_ble_eq_true rfl, ?_⟩
    have hH := hH.put 0 (o := .ins C_Disk t.dx (dF t true de m)) rfl
    refine ⟨_, rfl, _, rfl, _, _, _, _, rfl, hH.at 0 rfl, T.c_Disk, T.na_Disk__deeds, Nat.le_of_ble_eq_true rfl, ?_⟩
    have hH := hH.put 0 (o := .ins C_Disk t.dx (dF t true n m)) rfl
    exact k true n _ (show _ ∧ _ from ⟨rfl, h0⟩) hH
  · have c' : m.left = 0 := by simpa using c
    have e : m.arm n = m := by unfold AM.arm; rw [if_pos c']
    rw [e] at k
    exact k _ _ _ hR hH
theorem ok_Disk_crashes {f : Addr} {fd : FuncData} (F : Fun K "crashes" "Disk.crashes" s_Disk_crashes f fd) (T : Txt K mg C_HushError C_OutOfRange C_OutOfOrder C_PowerLost C_Disk)  :
    FnOk P w K mg base (L2.CX P w) 1 f fd ["self"] (spCrs C_Disk) := by
  refine F.okX sc_Disk_crashes (fun vs H Q E h => ?_) (fun cdv A outer s H vs Q E hr h => ⟨_, (pss_one (ps_ret (pe_fldK (K := K) (pv 0) rfl))), ?_⟩)
  · obtain ⟨d, t, ar, de, m, B, M, rfl, hH, k⟩ := h <;> rfl
  obtain ⟨d, t, ar, de, m, B, M, rfl, hH, k⟩ := h
  exact ⟨_, rfl, _, _, _, _, _, rfl, hH.at 0 rfl, T.c_Disk, T.na_Disk__crashes, rfl, k⟩
theorem ok_Disk_crash {f : Addr} {fd : FuncData} (F : Fun K "crash" "Disk.crash" s_Disk_crash f fd) (T : Txt K mg C_HushError C_OutOfRange C_OutOfOrder C_PowerLost C_Disk)  :
    FnOk P w K mg base (L2.CX P w) 1 f fd ["self", "kept", "torn"] (spCrash C_Disk) := by
  refine F.okX sc_Disk_crash (fun vs H Q E h => ?_) (fun cdv A outer s H vs Q E hr h => ⟨_, (pss_cons (ps_for (passes_of rfl) rfl (pi_range1 (by rfl) T.n_range (pa_cons pe_int pa_nil)) (pg_name (i := 3) sc_Disk_crash.nd rfl (Or.inl rfl))
      (pss_cons (ps_set (i := 4) sc_Disk_crash.nd rfl (Or.inl rfl) (pe_ix (ix_listK (K := K)) (pe_fldK (K := K) (pv 0) rfl) (pv 3) (fun _ _ => rfl)))
      (pss_cons (ps_set (i := 5) sc_Disk_crash.nd rfl (Or.inl rfl) (pe_slice (sl_listK (K := K)) (pv 4) po_none (po_some (pv 1))))
      (pss_cons (ps_set (i := 6) sc_Disk_crash.nd rfl (Or.inl rfl) (pe_op op_rep (pe_lst (pa_cons pe_int pa_nil)) (pe_callB (call_minK rfl) (by rfl) T.n_min (by decide +kernel) (pa_cons (pv 2) (pa_cons (pe_op op_sub (pe_callB (call_lenK (K := K)) (by rfl) T.n_len (by decide +kernel) (pa_cons (pv 4) pa_nil)) (pe_callB (call_lenK (K := K)) (by rfl) T.n_len (by decide +kernel) (pa_cons (pv 5) pa_nil))) pa_nil)))))
      (pss_cons (ps_expr (pe_bmK (K := K) PySem.F.plainAttrs_list PySem.F.slot_list_extend PySem.F.type_list_extend mt_extend (pe_ix (ix_listK (K := K)) (pe_fldK (K := K) (pv 0) rfl) (pv 3) (fun _ _ => rfl)) (pa_cons (pv 5) pa_nil)))
      (pss_cons (ps_expr (pe_bmK (K := K) PySem.F.plainAttrs_list PySem.F.slot_list_extend PySem.F.type_list_extend mt_extend (pe_ix (ix_listK (K := K)) (pe_fldK (K := K) (pv 0) rfl) (pv 3) (fun _ _ => rfl)) (pa_cons (pv 6) pa_nil)))
      (pss_one (ps_asg (pe_lst pa_nil) (pg_sub (pe_fldK (K := K) (pv 0) rfl) (pv 3) set_list)))))))))
      (pss_cons (ps_fldK (K := K) (pv 0) pe_bl rfl)
      (pss_one (ps_fldaugK (K := K) (pv 0) pe_int in_add)))), ?_⟩)
  · obtain ⟨d, t, ar, de, m, B, M, k, n, rfl, hk, hn, ok, hR, hH, kQ⟩ := h <;> rfl
  obtain ⟨d, t, ar, de, m, B, M, k, n, rfl, hk, hn, ok, hR, hH, kQ⟩ := h
  refine ⟨_, rfl, by decide, by decide, for_rangeU (n := 2) ?_⟩
  have l0 := ok_s ok false
  have l1 := ok_s ok true
  have eb : ∀ (f : List Int) (z : Int), z = (if ((f.map V.int).length : Int) - (((f.take k.toNat).map V.int).length : Int) < n then ((f.map V.int).length : Int) - (((f.take k.toNat).map V.int).length : Int) else n) →
      z.toNat = min n.toNat (f.length - (f.take k.toNat).length) ∧ 0 ≤ z ∧ z ≤ f.length := fun f z ez => by
    have : (f.take k.toNat).length ≤ f.length := by rw [List.length_take]; omega
    rw [List.length_map, List.length_map] at ez
    split at ez <;> omega
  have lb : (m.s0).length + (m.f0).length ≤ 65536 := ok_s ok false
  refine ⟨_, rfl, _, _, _, _, _, rfl, hH.at 0 rfl, T.c_Disk, T.na_Disk__fresh, rfl, _, rfl, _, _, _, _, rfl, rfl, sqL_of (hH.at 2 rfl), rfl, ?_⟩
  refine ⟨_, rfl, _, rfl, _, rfl, _, _, rfl, sqL_of (hH.at 5 rfl), fun p hp => ?_⟩
  have e2 : cutV (m.f0.map V.int) none (some k) = (m.f0.take k.toNat).map V.int := cut_to hk
  rw [e2]
  have hH := hH.add (o := isL (m.f0.take k.toNat)) hp
  refine ⟨(by show 1 ≤ sizeLine; decide), fun q0 hq0 => ?_⟩
  have hH := hH.add (o := .lst [.int 0]) hq0
  refine ⟨_, rfl, _, rfl, _, _, rfl, .inl (sqL_of (by walk_at "hp")), _, rfl, _, _, rfl, .inl (sqL_of (by walk_at "hp")), _, _, rfl, rfl, _, _, rfl, _, _, _, rfl, rfl, hH.at 0 rfl, ?_⟩
  obtain ⟨z, ez⟩ : ∃ z, z = (if ((m.f0.map V.int).length : Int) - (((m.f0.take k.toNat).map V.int).length : Int) < n then ((m.f0.map V.int).length : Int) - (((m.f0.take k.toNat).map V.int).length : Int) else n) := ⟨_, rfl⟩
  rw [← ez]
  obtain ⟨e3, z0, z1⟩ := eb _ _ ez
  clear ez
  refine ⟨by omega, by omega, (by show 1 * _ ≤ _; rw [Nat.one_mul]; exact sz_le (by omega)), fun q hq => ?_⟩
  have e4 : (List.replicate z.toNat [V.int 0]).flatten = (List.replicate (min n.toNat (m.f0.length - (m.f0.take k.toNat).length)) 0).map V.int := by rw [rep_int, e3]
  rw [e4]
  have hH := hH.add (o := isL (List.replicate (min n.toNat (m.f0.length - (m.f0.take k.toNat).length)) 0)) hq
  have cl := cr_len m.s0 m.f0 k.toNat n.toNat
  rw [List.length_append, List.length_append] at cl
  refine ⟨_, rfl, _, _, _, _, _, rfl, hH.at 3 rfl, T.c_Disk, T.na_Disk__settled, rfl, _, rfl, _, _, _, _, rfl, rfl, sqL_of (hH.at 4 rfl), rfl, .inl ⟨rfl, _, (sqL_of (by walk_at "hp"))⟩, _, rfl, _, _, _, _, rfl, rfl, hH.at 6 rfl, hH.at 2 rfl, ?_, ?_⟩
  · rw [List.length_map, List.length_map]
    exact sz_le (by omega)
  rw [isL_cat]
  have hH := hH.put 6 (o := isL (m.s0 ++ m.f0.take k.toNat)) rfl
  refine ⟨_, rfl, _, _, _, _, _, rfl, hH.at 3 rfl, T.c_Disk, T.na_Disk__settled, rfl, _, rfl, _, _, _, _, rfl, rfl, sqL_of (hH.at 4 rfl), rfl, .inl ⟨rfl, _, (sqL_of (by walk_at "hp"))⟩, _, rfl, _, _, _, _, rfl, rfl, hH.at 6 rfl, hH.at 0 rfl, ?_, ?_⟩
  · rw [List.length_map, List.length_map, List.length_append]
    exact sz_le (by omega)
  rw [isL_cat, List.append_assoc]
  have hH := hH.put 6 (o := isL (m.s0 ++ (m.f0.take k.toNat ++ List.replicate (min n.toNat (m.f0.length - (m.f0.take k.toNat).length)) 0))) rfl
  refine ⟨by show 0 ≤ sizeLine; decide, fun r hr => ?_⟩
  have hH := hH.add (o := isL []) hr
  refine ⟨_, rfl, _, _, _, _, _, rfl, hH.at 4 rfl, T.c_Disk, T.na_Disk__fresh, rfl, _, rfl, _, _, _, _, rfl, rfl, hH.at 6 rfl, rfl, ?_⟩
  have hH := hH.put 6 (o := .lst [.ref r, .ref t.f1]) rfl
  have hH := Wd.pick (L := [_, _, _, _, _, _, _, _, _, _, _]) (L' := DL C_Disk d { t with f0 := r } ar de (crB m false k.toNat n.toNat)) hH [4,5,6,7,8,0,10] (by decide) rfl
  have ok1 := ok_crB ok false k.toNat n.toNat
  generalize emm1 : crB m false k.toNat n.toNat = m1 at hH ok1
  generalize ({ t with f0 := r } : DT) = t1 at hH
  generalize hX : upd _ _ _ = Hn; replace hH := Eq.mp (congrArg (Wd _ _) hX) hH; clear hX
  clear lb cl e2 e3 e4
  have lb : (m1.s1).length + (m1.f1).length ≤ 65536 := ok_s ok1 true
  refine ⟨_, rfl, _, _, _, _, _, rfl, hH.at 0 rfl, T.c_Disk, T.na_Disk__fresh, rfl, _, rfl, _, _, _, _, rfl, rfl, sqL_of (hH.at 2 rfl), rfl, ?_⟩
  refine ⟨_, rfl, _, rfl, _, rfl, _, _, rfl, sqL_of (hH.at 6 rfl), fun p hp => ?_⟩
  have e2 : cutV (m1.f1.map V.int) none (some k) = (m1.f1.take k.toNat).map V.int := cut_to hk
  rw [e2]
  have hH := hH.add (o := isL (m1.f1.take k.toNat)) hp
  refine ⟨(by show 1 ≤ sizeLine; decide), fun q0 hq0 => ?_⟩
  have hH := hH.add (o := .lst [.int 0]) hq0
  refine ⟨_, rfl, _, rfl, _, _, rfl, .inl (sqL_of (by walk_at "hp")), _, rfl, _, _, rfl, .inl (sqL_of (by walk_at "hp")), _, _, rfl, rfl, _, _, rfl, _, _, _, rfl, rfl, hH.at 0 rfl, ?_⟩
  obtain ⟨z, ez⟩ : ∃ z, z = (if ((m1.f1.map V.int).length : Int) - (((m1.f1.take k.toNat).map V.int).length : Int) < n then ((m1.f1.map V.int).length : Int) - (((m1.f1.take k.toNat).map V.int).length : Int) else n) := ⟨_, rfl⟩
  rw [← ez]
  obtain ⟨e3, z0, z1⟩ := eb _ _ ez
  clear ez
  refine ⟨by omega, by omega, (by show 1 * _ ≤ _; rw [Nat.one_mul]; exact sz_le (by omega)), fun q hq => ?_⟩
  have e4 : (List.replicate z.toNat [V.int 0]).flatten = (List.replicate (min n.toNat (m1.f1.length - (m1.f1.take k.toNat).length)) 0).map V.int := by rw [rep_int, e3]
  rw [e4]
  have hH := hH.add (o := isL (List.replicate (min n.toNat (m1.f1.length - (m1.f1.take k.toNat).length)) 0)) hq
  have cl := cr_len m1.s1 m1.f1 k.toNat n.toNat
  rw [List.length_append, List.length_append] at cl
  refine ⟨_, rfl, _, _, _, _, _, rfl, hH.at 3 rfl, T.c_Disk, T.na_Disk__settled, rfl, _, rfl, _, _, _, _, rfl, rfl, sqL_of (hH.at 4 rfl), rfl, .inl ⟨rfl, _, (sqL_of (by walk_at "hp"))⟩, _, rfl, _, _, _, _, rfl, rfl, hH.at 7 rfl, hH.at 2 rfl, ?_, ?_⟩
  · rw [List.length_map, List.length_map]
    exact sz_le (by omega)
  rw [isL_cat]
  have hH := hH.put 7 (o := isL (m1.s1 ++ m1.f1.take k.toNat)) rfl
  refine ⟨_, rfl, _, _, _, _, _, rfl, hH.at 3 rfl, T.c_Disk, T.na_Disk__settled, rfl, _, rfl, _, _, _, _, rfl, rfl, sqL_of (hH.at 4 rfl), rfl, .inl ⟨rfl, _, (sqL_of (by walk_at "hp"))⟩, _, rfl, _, _, _, _, rfl, rfl, hH.at 7 rfl, hH.at 0 rfl, ?_, ?_⟩
  · rw [List.length_map, List.length_map, List.length_append]
    exact sz_le (by omega)
  rw [isL_cat, List.append_assoc]
  have hH := hH.put 7 (o := isL (m1.s1 ++ (m1.f1.take k.toNat ++ List.replicate (min n.toNat (m1.f1.length - (m1.f1.take k.toNat).length)) 0))) rfl
  refine ⟨by show 0 ≤ sizeLine; decide, fun r hr => ?_⟩
  have hH := hH.add (o := isL []) hr
  refine ⟨_, rfl, _, _, _, _, _, rfl, hH.at 4 rfl, T.c_Disk, T.na_Disk__fresh, rfl, _, rfl, _, _, _, _, rfl, rfl, hH.at 6 rfl, rfl, ?_⟩
  have hH := hH.put 6 (o := .lst [.ref t1.f0, .ref r]) rfl
  have hH := Wd.pick (L := [_, _, _, _, _, _, _, _, _, _, _]) (L' := DL C_Disk d { t1 with f1 := r } ar de (crB m1 true k.toNat n.toNat)) hH [4,5,6,7,8,9,0] (by decide) rfl
  have ok2 := ok_crB ok1 true k.toNat n.toNat
  generalize emm2 : crB m1 true k.toNat n.toNat = m2 at hH ok2
  generalize ({ t1 with f1 := r } : DT) = t2 at hH
  generalize hX : upd _ _ _ = Hn; replace hH := Eq.mp (congrArg (Wd _ _) hX) hH; clear hX
  clear lb cl e2 e3 e4
  refine ⟨_, rfl, _, _, _, _, rfl, hH.at 0 rfl, T.c_Disk, T.na_Disk__armed, Nat.le_of_ble_eq_true rfl, ?_⟩
  have hH := hH.put 0 (o := .ins C_Disk t2.dx (dF t2 false de m2)) rfl
  refine ⟨_, rfl, _, _, _, _, _, rfl, hH.at 0 rfl, T.c_Disk, T.na_Disk__crashes, rfl, _, _, rfl, rfl, _, _, hH.at 0 rfl, Nat.le_of_ble_eq_true rfl, ?_⟩
  have e : m.crash k.toNat n.toNat = { m2 with left := -1, cr := m2.cr + 1 } := by unfold AM.crash; rw [emm1, emm2, ← emm2, ← emm1]; rfl
  rw [e] at kQ
  refine kQ false de t2 _ (show _ = _ from rfl) ?_
  exact hH.put 0 rfl
theorem ok__law_cell {f : Addr} {fd : FuncData} (F : Fun K "_law_cell" "_law_cell" s__law_cell f fd) (T : Txt K mg C_HushError C_OutOfRange C_OutOfOrder C_PowerLost C_Disk)  :
    FnOk P w K mg base (L2.CX P w) 1 f fd ["_law_script", "_law_k"] (spCell K) := by
  refine F.okX sc__law_cell (fun vs H Q E h => ?_) (fun cdv A outer s H vs Q E hr h => ⟨_, (pss_cons (ps_if (pt_cmpR op_lt (pv 1) (pe_callB (call_lenK (K := K)) (by rfl) T.n_len (by decide +kernel) (pa_cons (pv 0) pa_nil)) (nomark _))
      (pss_one (ps_ret (pe_callTy call_intK (by rfl) T.n_int (by decide +kernel) (pa_cons (pe_ix (ix_listK (K := K)) (pv 0) (pv 1) (fun _ _ => rfl)) pa_nil))))
      pss_nil)
      (pss_one (ps_ret pe_int))), ?_⟩)
  · obtain ⟨a, ns, k, rfl, hS, h0, hq⟩ := h <;> rfl
  obtain ⟨a, ns, k, rfl, hS, h0, hq⟩ := h
  refine ⟨_, rfl, _, rfl, _, _, rfl, .inl hS, _, _, rfl, rfl, _, rfl, ?_⟩
  refine if_iff (p := k < ns.length) (by rw [List.length_map]) (fun c => ?_) (fun c => ?_)
  · refine ⟨_, rfl, _, rfl, _, _, _, _, rfl, rfl, hS, ?_, .inl ⟨_, rfl, hq⟩⟩
    unfold cell
    rw [if_pos c]
    have e : k = ((k.toNat : Nat) : Int) := by omega
    have hl : k.toNat < ns.length := by omega
    refine at_of e ?_
    rw [List.getElem?_map, List.getElem?_eq_getElem hl, List.getD_eq_getElem?_getD, List.getElem?_eq_getElem hl]
    rfl
  · unfold cell at hq
    rw [if_neg c] at hq
    exact hq
theorem ok__law_row {f : Addr} {fd : FuncData} (F : Fun K "_law_row" "_law_row" s__law_row f fd) (T : Txt K mg C_HushError C_OutOfRange C_OutOfOrder C_PowerLost C_Disk)  :
    FnOk P w K mg base (L2.CX P w) 1 f fd ["_law_cell_here", "_law_count"] spRow := by
  refine F.okX sc__law_row (fun vs H Q E h => ?_) (fun cdv A outer s H vs Q E hr h => ⟨_, (pss_cons (ps_set (i := 2) sc__law_row.nd rfl (Or.inl rfl) (pe_lst pa_nil))
      (pss_cons (ps_set (i := 3) sc__law_row.nd rfl (Or.inl rfl) (pe_callB call_absK (by rfl) T.n_abs (by decide +kernel) (pa_cons (pv 0) pa_nil)))
      (pss_cons (ps_if (pt_cmpR op_ge (pv 3) (pe_op op_pow pe_int pe_int) (nomark _))
      (pss_cons (ps_for (passes_of rfl) rfl (pi_range1 (by rfl) T.n_range (pa_cons (pv 1) pa_nil)) (pg_name (i := 4) sc__law_row.nd rfl (Or.inl rfl))
      (pss_cons (ps_expr (pe_bmK (K := K) PySem.F.plainAttrs_list PySem.F.slot_list_append PySem.F.type_list_append mt_append (pv 2) (pa_cons (pe_op op_and (pv 3) pe_int) pa_nil)))
      (pss_one (ps_set (i := 3) sc__law_row.nd rfl (Or.inl rfl) (pe_op op_shr (pv 3) pe_int)))))
      (pss_one (ps_ret (pv 2))))
      pss_nil)
      (pss_cons (ps_set (i := 5) sc__law_row.nd rfl (Or.inl rfl) (pe_op op_add (pe_op op_mod (pe_callTy call_intK (by rfl) T.n_int (by decide +kernel) (pa_cons (pv 3) pa_nil)) pe_int) pe_int))
      (pss_cons (ps_for (passes_of rfl) rfl (pi_range1 (by rfl) T.n_range (pa_cons (pv 1) pa_nil)) (pg_name (i := 4) sc__law_row.nd rfl (Or.inl rfl))
      (pss_cons (ps_set (i := 5) sc__law_row.nd rfl (Or.inl rfl) (pe_op op_mod (pe_callTy call_intK (by rfl) T.n_int (by decide +kernel) (pa_cons (pe_op op_mul (pv 5) pe_int) pa_nil)) pe_int))
      (pss_one (ps_expr (pe_bmK (K := K) PySem.F.plainAttrs_list PySem.F.slot_list_append PySem.F.type_list_append mt_append (pv 2) (pa_cons (pe_op op_and (pe_op op_add (pe_op op_fdiv (pv 5) pe_int) (pv 5)) pe_int) pa_nil))))))
      (pss_one (ps_ret (pv 2)))))))), ?_⟩)
  · obtain ⟨c, n, rfl, h0, h1, hq⟩ := h <;> rfl
  obtain ⟨c, n, rfl, h0, h1, hq⟩ := h
  have nn : ∀ y : Int, 0 ≤ y → 0 ≤ Builtin.bitAnd y 255 ∧ Builtin.bitAnd y 255 ≤ 255 := fun y hy => by
    rw [band255 hy]
    omega
  refine ⟨by show 0 ≤ sizeLine; decide, fun p hp => ?_⟩
  have hH := (Wd.start H).add (o := isL []) hp
  refine ⟨_, rfl, _, rfl, _, rfl, _, _, rfl, rfl, ⟨by decide, by decide, by decide⟩, _, _, rfl, rfl, _, rfl, ?_⟩
  have la := ab_nn c
  generalize hl : (if c < 0 then -c else c) = left at la ⊢
  refine ite2 (fun _ => ?_) (fun _ => ?_)
  · refine ⟨_, rfl, _, rfl, by omega, by omega, for_range (lo := 0) (n := n.toNat) (fun i σ H' => ∃ ys left v s, σ = [some (.int c), some (.int n), some (.ref p), some (.int left), v, s] ∧ 0 ≤ left ∧ ys.length = i ∧ (∀ y ∈ ys, 0 ≤ y ∧ y ≤ 255) ∧ Wd H [(p, isL ys)] H')
      ⟨[], left, none, none, rfl, la, rfl, fun _ h => by simp at h, hH⟩ ?_ ?_⟩
    · rintro i σ H' hi ⟨ys, l, v, s, rfl, hl0, hly, hys, hW⟩
      refine ⟨_, rfl, .inl ⟨rfl, _, sqL_of (hW.at 0 rfl)⟩, _, rfl, _, _, rfl, rfl, _, _, _, rfl, rfl, hW.at 0 rfl, ?_, ?_⟩
      · rw [List.length_map]
        exact sz_lt (by omega)
      · refine ⟨_, rfl, _, _, rfl, rfl, (by show (0 : Int) ≤ _; decide), ?_⟩
        refine ⟨ys ++ [Builtin.bitAnd l 255], _, _, _, rfl, ?_, ?_, ?_, ?_⟩
        · show 0 ≤ l / 2 ^ (8 : Int).toNat
          exact Int.ediv_nonneg hl0 (by decide)
        · simp [hly]
        · intro y hy
          rcases List.mem_append.mp hy with hy | hy
          · exact hys y hy
          · rw [List.mem_singleton.mp hy]
            exact nn l hl0
        · rw [isL_app]
          exact hW.put 0 rfl
    · rintro σ H' ⟨ys, l, v, s, rfl, _, hly, hys, hW⟩
      exact ⟨_, rfl, hq ys p H' hly hys hW⟩
  · refine ⟨_, rfl, .inl ⟨_, rfl, _, _, rfl, rfl, (by show (0 : Int) < _; decide), _, _, rfl, rfl, ?_⟩⟩
    refine ⟨_, rfl, _, rfl, by omega, by omega, for_range (lo := 0) (n := n.toNat) (fun i σ H' => ∃ ys s v, σ = [some (.int c), some (.int n), some (.ref p), some (.int left), v, some (.int s)] ∧ 0 ≤ s ∧ ys.length = i ∧ (∀ y ∈ ys, 0 ≤ y ∧ y ≤ 255) ∧ Wd H [(p, isL ys)] H')
      ⟨[], left % 2147483629 + 1, none, rfl, by omega, rfl, fun _ h => by simp at h, hH⟩ ?_ ?_⟩
    · rintro i σ H' hi ⟨ys, l, v, rfl, hl0, hly, hys, hW⟩
      refine ⟨_, rfl, _, _, rfl, rfl, .inr ⟨by decide, by decide⟩, .inl ⟨_, rfl, _, _, rfl, rfl, (by show (0 : Int) < _; decide), ?_⟩⟩
      have hs0 : 0 ≤ l * 48271 % 2147483647 := Int.emod_nonneg _ (by decide)
      refine ⟨_, rfl, .inl ⟨rfl, _, sqL_of (hW.at 0 rfl)⟩, _, rfl, _, _, rfl, rfl, ⟨by decide, by decide⟩, _, rfl, _, _, rfl, rfl, _, _, rfl, rfl, _, _, _, rfl, rfl, hW.at 0 rfl, ?_, ?_⟩
      · rw [List.length_map]
        exact sz_lt (by omega)
      · refine ⟨ys ++ [Builtin.bitAnd (l * 48271 % 2147483647 / 7 + l * 48271 % 2147483647) 255], _, _, rfl, hs0, ?_, ?_, ?_⟩
        · simp [hly]
        · intro y hy
          rcases List.mem_append.mp hy with hy | hy
          · exact hys y hy
          · rw [List.mem_singleton.mp hy]
            exact nn _ (by omega)
        · rw [isL_app]
          exact hW.put 0 rfl
    · rintro σ H' ⟨ys, l, v, rfl, _, hly, hys, hW⟩
      exact ⟨_, rfl, hq ys p H' hly hys hW⟩
theorem ok__law_is_integer {f : Addr} {fd : FuncData} (F : Fun K "_law_is_integer" "_law_is_integer" s__law_is_integer f fd) (T : Txt K mg C_HushError C_OutOfRange C_OutOfOrder C_PowerLost C_Disk)  :
    FnOk P w K mg base (L2.CX P w) 1 f fd ["_law_actual"] spIsInt := by
  refine F.okX sc__law_is_integer (fun vs H Q E h => ?_) (fun cdv A outer s H vs Q E hr h => ⟨_, (pss_one (ps_ret (pe_and (pe_callB (call_isiK' (K := K)) (by rfl) T.n_isinstance (by decide +kernel) (pa_cons (pv 0) (pa_cons (pe_bltn (v := .ty "int") (u := .type "int") (by rfl) T.n_int (by decide +kernel) rfl) pa_nil))) (pe_one (pe_not (pe_callB (call_isiK' (K := K)) (by rfl) T.n_isinstance (by decide +kernel) (pa_cons (pv 0) (pa_cons (pe_bltn (v := .ty "bool") (u := .type "bool") (by rfl) T.n_bool (by decide +kernel) rfl) pa_nil)))))))), ?_⟩)
  · obtain ⟨i, rfl, k⟩ := h <;> rfl
  obtain ⟨i, rfl, k⟩ := h
  exact ⟨_, rfl, _, _, _, _, _, rfl, .ty _, .base (.int _), kit_ty kit_ii, _, rfl, iteT ⟨_, rfl, _, _, _, _, _, rfl, .ty _, .base (.int _), kit_ty kit_ib, _, rfl, k⟩⟩
theorem ok__law_says {f : Addr} {fd : FuncData} (F : Fun K "_law_says" "_law_says" s__law_says f fd) (T : Txt K mg C_HushError C_OutOfRange C_OutOfOrder C_PowerLost C_Disk)  :
    FnOk P w K mg base (L2.CX P w) 1 f fd ["_law_actual", "_law_expected_here"] spSays := by
  refine F.okX sc__law_says (fun vs H Q E h => ?_) (fun cdv A outer s H vs Q E hr h => ⟨_, (pss_cons (ps_if (pt_val (pv 1))
      (pss_one (ps_ret (pe_cmpR op_isBl (pv 0) pe_bl (nomark _))))
      pss_nil)
      (pss_one (ps_ret (pe_cmpR op_isBl (pv 0) pe_bl (nomark _))))), ?_⟩)
  · obtain ⟨a, b, rfl, k⟩ := h <;> rfl
  obtain ⟨a, b, rfl, k⟩ := h
  refine ⟨_, rfl, _, rfl, ?_⟩
  cases b
  · exact iteF ⟨_, rfl, _, _, rfl, rfl, k⟩
  · exact iteT ⟨_, rfl, _, _, rfl, rfl, k⟩
theorem ok__law_word {f : Addr} {fd : FuncData} (F : Fun K "_law_word" "_law_word" s__law_word f fd) (T : Txt K mg C_HushError C_OutOfRange C_OutOfOrder C_PowerLost C_Disk) (GM_Disk_write : GM P w K mg base C_Disk "write" 3 ["self", "bank", "data"] (spWrite C_Disk C_PowerLost C_OutOfOrder C_OutOfRange)) (GM_Disk_settle : GM P w K mg base C_Disk "settle" 3 ["self", "bank"] (spSettle C_Disk C_PowerLost C_OutOfOrder C_OutOfRange)) (GM_Disk_cut : GM P w K mg base C_Disk "cut" 3 ["self", "bank", "length"] (spCut C_Disk C_PowerLost C_OutOfOrder C_OutOfRange)) :
    FnOk P w K mg base (L2.CX P w) 4 f fd ["_law_disk", "_law_which", "_law_bank", "_law_given"] (spWord C_Disk) := by
  refine F.okX sc__law_word (fun vs H Q E h => ?_) (fun cdv A outer s H vs Q E hr h => ⟨_, (pss_cons (ps_try_as (i := 4) rfl rfl sc__law_word.nd rfl rfl ⟨rfl, by decide, .inl T.gc_HushError⟩ takes0 (fun W pn xe tk po => (pss_one (ps_if (pt_cmpR op_eq (pv 1) pe_int (nomark _))
      (pss_one (ps_expr (pe_methG (pv 0) T.c_Disk GM_Disk_write (hr.mono (by decide)) tk (pa_cons (pv 2) (pa_cons (pv 3) pa_nil)))))
      (pss_one (ps_if (pt_cmpR op_eq (pv 1) pe_int (nomark _))
      (pss_one (ps_expr (pe_methG (pv 0) T.c_Disk GM_Disk_settle (hr.mono (by decide)) tk (pa_cons (pv 2) pa_nil))))
      (pss_one (ps_expr (pe_methG (pv 0) T.c_Disk GM_Disk_cut (hr.mono (by decide)) tk (pa_cons (pv 2) (pa_cons (pv 3) pa_nil))))))))))
      (fun a oe cls d pn hz hf => (pss_cons (ps_set (i := 5) sc__law_word.nd rfl (Or.inl rfl) (pe_lst (pa_cons (pe_callB (call_isE2 hz hf) (by rfl) T.n_isinstance (by decide +kernel) (pa_cons (pv 4) (pa_cons (pe_globV (gv_ref T.gc_PowerLost)) pa_nil))) (pa_cons (pe_callB (call_isE2 hz hf) (by rfl) T.n_isinstance (by decide +kernel) (pa_cons (pv 4) (pa_cons (pe_globV (gv_ref T.gc_OutOfOrder)) pa_nil))) (pa_cons (pe_callB (call_isE2 hz hf) (by rfl) T.n_isinstance (by decide +kernel) (pa_cons (pv 4) (pa_cons (pe_globV (gv_ref T.gc_OutOfRange)) pa_nil))) pa_nil)))))
      (pss_cons (ps_if (pt_cmpR (op_eqDK (K := K) (by exact hr.units)) (pv 5) (pe_lst (pa_cons pe_bl (pa_cons pe_bl (pa_cons pe_bl pa_nil)))) (nomark _))
      (pss_one (ps_ret pe_str))
      pss_nil)
      (pss_cons (ps_if (pt_cmpR (op_eqDK (K := K) (by exact hr.units)) (pv 5) (pe_lst (pa_cons pe_bl (pa_cons pe_bl (pa_cons pe_bl pa_nil)))) (nomark _))
      (pss_one (ps_ret pe_str))
      pss_nil)
      (pss_cons (ps_if (pt_cmpR (op_eqDK (K := K) (by exact hr.units)) (pv 5) (pe_lst (pa_cons pe_bl (pa_cons pe_bl (pa_cons pe_bl pa_nil)))) (nomark _))
      (pss_one (ps_ret pe_str))
      pss_nil)
      (pss_one (ps_ret pe_str))))))))
      (pss_one (ps_ret pe_str))), ?_⟩)
  · obtain ⟨d, t, ar, de, m, B, b, ok, hR, ⟨a, xs, M, rfl, hH, k⟩ | ⟨M, rfl, hH, k⟩ | ⟨n, M, rfl, hH, k⟩⟩ := h <;> rfl
  obtain ⟨d, t, ar, de, m, B, b, ok, hR, ⟨a, xs, M, rfl, hH, k⟩ | ⟨M, rfl, hH, k⟩ | ⟨n, M, rfl, hH, k⟩⟩ := h
  · refine ⟨_, rfl, rfl, _, rfl, ?_⟩
    refine iteT ?_
    refine ⟨_, rfl, _, _, _, rfl, hH.at 0 rfl, rfl, _, rfl, _, rfl, d, t, ar, de, m, B, _, b, a, xs, rfl, ok, hR, hH, fun ar' de' t' H' hR' hH' => ?_⟩
    have k := fun H'' => k ar' de' t' H'' hR'
    clear hR' hR hH ok
    rcases hn : (m.write b xs).2 with _ | _ | _ | _
    · rw [hn] at k
      exact k _ hH'
    all_goals
      rw [hn] at k
    · refine ⟨true, PySem.W.exm_ref T.b_HushError T.h_HushError T.t_HushError T.su_PowerLost_HushError, fun _ a0 _ => ?_, fun z => Bool.noConfusion z⟩
      refine ⟨_, rfl, _, rfl, rfl, T.ec_PowerLost, _, _, _, rfl, fun u h => h, T.ki_PowerLost_PowerLost, _, rfl, _, rfl, rfl, T.ec_PowerLost, _, _, _, rfl, fun u h => h, T.ki_PowerLost_OutOfOrder, _, rfl, _, rfl, rfl, T.ec_PowerLost, _, _, _, rfl, fun u h => h, T.ki_PowerLost_OutOfRange, by show 3 ≤ sizeLine; decide, fun p hp => ?_⟩
      have hH := hH'.add (o := .lst [.bl true, .bl false, .bl false]) hp
      refine ⟨_, rfl, by show 3 ≤ sizeLine; decide, fun q hq => ?_⟩
      have hH := hH.add (o := .lst [.bl true, .bl false, .bl false]) hq
      refine ⟨_, _, dp_bls [true, false, false] (hH.at 1 rfl), dp_bls [true, false, false] (hH.at 0 rfl), rfl, rfl, _, rfl, iteT ?_⟩
      exact k _ hH.drop0.drop0
    · refine ⟨true, PySem.W.exm_ref T.b_HushError T.h_HushError T.t_HushError T.su_OutOfOrder_HushError, fun _ a0 _ => ?_, fun z => Bool.noConfusion z⟩
      refine ⟨_, rfl, _, rfl, rfl, T.ec_OutOfOrder, _, _, _, rfl, fun u h => h, T.ki_OutOfOrder_PowerLost, _, rfl, _, rfl, rfl, T.ec_OutOfOrder, _, _, _, rfl, fun u h => h, T.ki_OutOfOrder_OutOfOrder, _, rfl, _, rfl, rfl, T.ec_OutOfOrder, _, _, _, rfl, fun u h => h, T.ki_OutOfOrder_OutOfRange, by show 3 ≤ sizeLine; decide, fun p hp => ?_⟩
      have hH := hH'.add (o := .lst [.bl false, .bl true, .bl false]) hp
      refine ⟨_, rfl, by show 3 ≤ sizeLine; decide, fun q hq => ?_⟩
      have hH := hH.add (o := .lst [.bl true, .bl false, .bl false]) hq
      refine ⟨_, _, dp_bls [false, true, false] (hH.at 1 rfl), dp_bls [true, false, false] (hH.at 0 rfl), rfl, rfl, _, rfl, iteF ?_⟩
      refine ⟨_, rfl, by show 3 ≤ sizeLine; decide, fun q hq => ?_⟩
      have hH := hH.add (o := .lst [.bl false, .bl true, .bl false]) hq
      refine ⟨_, _, dp_bls [false, true, false] (hH.at 2 rfl), dp_bls [false, true, false] (hH.at 0 rfl), rfl, rfl, _, rfl, iteT ?_⟩
      exact k _ hH.drop0.drop0.drop0
    · refine ⟨true, PySem.W.exm_ref T.b_HushError T.h_HushError T.t_HushError T.su_OutOfRange_HushError, fun _ a0 _ => ?_, fun z => Bool.noConfusion z⟩
      refine ⟨_, rfl, _, rfl, rfl, T.ec_OutOfRange, _, _, _, rfl, fun u h => h, T.ki_OutOfRange_PowerLost, _, rfl, _, rfl, rfl, T.ec_OutOfRange, _, _, _, rfl, fun u h => h, T.ki_OutOfRange_OutOfOrder, _, rfl, _, rfl, rfl, T.ec_OutOfRange, _, _, _, rfl, fun u h => h, T.ki_OutOfRange_OutOfRange, by show 3 ≤ sizeLine; decide, fun p hp => ?_⟩
      have hH := hH'.add (o := .lst [.bl false, .bl false, .bl true]) hp
      refine ⟨_, rfl, by show 3 ≤ sizeLine; decide, fun q hq => ?_⟩
      have hH := hH.add (o := .lst [.bl true, .bl false, .bl false]) hq
      refine ⟨_, _, dp_bls [false, false, true] (hH.at 1 rfl), dp_bls [true, false, false] (hH.at 0 rfl), rfl, rfl, _, rfl, iteF ?_⟩
      refine ⟨_, rfl, by show 3 ≤ sizeLine; decide, fun q hq => ?_⟩
      have hH := hH.add (o := .lst [.bl false, .bl true, .bl false]) hq
      refine ⟨_, _, dp_bls [false, false, true] (hH.at 2 rfl), dp_bls [false, true, false] (hH.at 0 rfl), rfl, rfl, _, rfl, iteF ?_⟩
      refine ⟨_, rfl, by show 3 ≤ sizeLine; decide, fun q hq => ?_⟩
      have hH := hH.add (o := .lst [.bl false, .bl false, .bl true]) hq
      refine ⟨_, _, dp_bls [false, false, true] (hH.at 3 rfl), dp_bls [false, false, true] (hH.at 0 rfl), rfl, rfl, _, rfl, iteT ?_⟩
      exact k _ hH.drop0.drop0.drop0.drop0
  · refine ⟨_, rfl, rfl, _, rfl, ?_⟩
    refine iteF ⟨_, rfl, rfl, _, rfl, iteT ?_⟩
    refine ⟨_, rfl, _, _, _, rfl, hH.at 0 rfl, rfl, _, rfl, d, t, ar, de, m, B, _, b, rfl, ok, hR, hH, fun ar' de' t' H' hR' hH' => ?_⟩
    have k := fun H'' => k ar' de' t' H'' hR'
    clear hR' hR hH ok
    rcases hn : (m.settle b).2 with _ | _ | _ | _
    · rw [hn] at k
      exact k _ hH'
    all_goals
      rw [hn] at k
    · refine ⟨true, PySem.W.exm_ref T.b_HushError T.h_HushError T.t_HushError T.su_PowerLost_HushError, fun _ a0 _ => ?_, fun z => Bool.noConfusion z⟩
      refine ⟨_, rfl, _, rfl, rfl, T.ec_PowerLost, _, _, _, rfl, fun u h => h, T.ki_PowerLost_PowerLost, _, rfl, _, rfl, rfl, T.ec_PowerLost, _, _, _, rfl, fun u h => h, T.ki_PowerLost_OutOfOrder, _, rfl, _, rfl, rfl, T.ec_PowerLost, _, _, _, rfl, fun u h => h, T.ki_PowerLost_OutOfRange, by show 3 ≤ sizeLine; decide, fun p hp => ?_⟩
      have hH := hH'.add (o := .lst [.bl true, .bl false, .bl false]) hp
      refine ⟨_, rfl, by show 3 ≤ sizeLine; decide, fun q hq => ?_⟩
      have hH := hH.add (o := .lst [.bl true, .bl false, .bl false]) hq
      refine ⟨_, _, dp_bls [true, false, false] (hH.at 1 rfl), dp_bls [true, false, false] (hH.at 0 rfl), rfl, rfl, _, rfl, iteT ?_⟩
      exact k _ hH.drop0.drop0
    · refine ⟨true, PySem.W.exm_ref T.b_HushError T.h_HushError T.t_HushError T.su_OutOfOrder_HushError, fun _ a0 _ => ?_, fun z => Bool.noConfusion z⟩
      refine ⟨_, rfl, _, rfl, rfl, T.ec_OutOfOrder, _, _, _, rfl, fun u h => h, T.ki_OutOfOrder_PowerLost, _, rfl, _, rfl, rfl, T.ec_OutOfOrder, _, _, _, rfl, fun u h => h, T.ki_OutOfOrder_OutOfOrder, _, rfl, _, rfl, rfl, T.ec_OutOfOrder, _, _, _, rfl, fun u h => h, T.ki_OutOfOrder_OutOfRange, by show 3 ≤ sizeLine; decide, fun p hp => ?_⟩
      have hH := hH'.add (o := .lst [.bl false, .bl true, .bl false]) hp
      refine ⟨_, rfl, by show 3 ≤ sizeLine; decide, fun q hq => ?_⟩
      have hH := hH.add (o := .lst [.bl true, .bl false, .bl false]) hq
      refine ⟨_, _, dp_bls [false, true, false] (hH.at 1 rfl), dp_bls [true, false, false] (hH.at 0 rfl), rfl, rfl, _, rfl, iteF ?_⟩
      refine ⟨_, rfl, by show 3 ≤ sizeLine; decide, fun q hq => ?_⟩
      have hH := hH.add (o := .lst [.bl false, .bl true, .bl false]) hq
      refine ⟨_, _, dp_bls [false, true, false] (hH.at 2 rfl), dp_bls [false, true, false] (hH.at 0 rfl), rfl, rfl, _, rfl, iteT ?_⟩
      exact k _ hH.drop0.drop0.drop0
    · refine ⟨true, PySem.W.exm_ref T.b_HushError T.h_HushError T.t_HushError T.su_OutOfRange_HushError, fun _ a0 _ => ?_, fun z => Bool.noConfusion z⟩
      refine ⟨_, rfl, _, rfl, rfl, T.ec_OutOfRange, _, _, _, rfl, fun u h => h, T.ki_OutOfRange_PowerLost, _, rfl, _, rfl, rfl, T.ec_OutOfRange, _, _, _, rfl, fun u h => h, T.ki_OutOfRange_OutOfOrder, _, rfl, _, rfl, rfl, T.ec_OutOfRange, _, _, _, rfl, fun u h => h, T.ki_OutOfRange_OutOfRange, by show 3 ≤ sizeLine; decide, fun p hp => ?_⟩
      have hH := hH'.add (o := .lst [.bl false, .bl false, .bl true]) hp
      refine ⟨_, rfl, by show 3 ≤ sizeLine; decide, fun q hq => ?_⟩
      have hH := hH.add (o := .lst [.bl true, .bl false, .bl false]) hq
      refine ⟨_, _, dp_bls [false, false, true] (hH.at 1 rfl), dp_bls [true, false, false] (hH.at 0 rfl), rfl, rfl, _, rfl, iteF ?_⟩
      refine ⟨_, rfl, by show 3 ≤ sizeLine; decide, fun q hq => ?_⟩
      have hH := hH.add (o := .lst [.bl false, .bl true, .bl false]) hq
      refine ⟨_, _, dp_bls [false, false, true] (hH.at 2 rfl), dp_bls [false, true, false] (hH.at 0 rfl), rfl, rfl, _, rfl, iteF ?_⟩
      refine ⟨_, rfl, by show 3 ≤ sizeLine; decide, fun q hq => ?_⟩
      have hH := hH.add (o := .lst [.bl false, .bl false, .bl true]) hq
      refine ⟨_, _, dp_bls [false, false, true] (hH.at 3 rfl), dp_bls [false, false, true] (hH.at 0 rfl), rfl, rfl, _, rfl, iteT ?_⟩
      exact k _ hH.drop0.drop0.drop0.drop0
  · refine ⟨_, rfl, rfl, _, rfl, ?_⟩
    refine iteF ⟨_, rfl, rfl, _, rfl, iteF ?_⟩
    refine ⟨_, rfl, _, _, _, rfl, hH.at 0 rfl, rfl, _, rfl, _, rfl, d, t, ar, de, m, B, _, b, n, rfl, ok, hR, hH, fun ar' de' t' H' hR' hH' => ?_⟩
    have k := fun H'' => k ar' de' t' H'' hR'
    clear hR' hR hH ok
    rcases hn : (m.cut b n).2 with _ | _ | _ | _
    · rw [hn] at k
      exact k _ hH'
    all_goals
      rw [hn] at k
    · refine ⟨true, PySem.W.exm_ref T.b_HushError T.h_HushError T.t_HushError T.su_PowerLost_HushError, fun _ a0 _ => ?_, fun z => Bool.noConfusion z⟩
      refine ⟨_, rfl, _, rfl, rfl, T.ec_PowerLost, _, _, _, rfl, fun u h => h, T.ki_PowerLost_PowerLost, _, rfl, _, rfl, rfl, T.ec_PowerLost, _, _, _, rfl, fun u h => h, T.ki_PowerLost_OutOfOrder, _, rfl, _, rfl, rfl, T.ec_PowerLost, _, _, _, rfl, fun u h => h, T.ki_PowerLost_OutOfRange, by show 3 ≤ sizeLine; decide, fun p hp => ?_⟩
      have hH := hH'.add (o := .lst [.bl true, .bl false, .bl false]) hp
      refine ⟨_, rfl, by show 3 ≤ sizeLine; decide, fun q hq => ?_⟩
      have hH := hH.add (o := .lst [.bl true, .bl false, .bl false]) hq
      refine ⟨_, _, dp_bls [true, false, false] (hH.at 1 rfl), dp_bls [true, false, false] (hH.at 0 rfl), rfl, rfl, _, rfl, iteT ?_⟩
      exact k _ hH.drop0.drop0
    · refine ⟨true, PySem.W.exm_ref T.b_HushError T.h_HushError T.t_HushError T.su_OutOfOrder_HushError, fun _ a0 _ => ?_, fun z => Bool.noConfusion z⟩
      refine ⟨_, rfl, _, rfl, rfl, T.ec_OutOfOrder, _, _, _, rfl, fun u h => h, T.ki_OutOfOrder_PowerLost, _, rfl, _, rfl, rfl, T.ec_OutOfOrder, _, _, _, rfl, fun u h => h, T.ki_OutOfOrder_OutOfOrder, _, rfl, _, rfl, rfl, T.ec_OutOfOrder, _, _, _, rfl, fun u h => h, T.ki_OutOfOrder_OutOfRange, by show 3 ≤ sizeLine; decide, fun p hp => ?_⟩
      have hH := hH'.add (o := .lst [.bl false, .bl true, .bl false]) hp
      refine ⟨_, rfl, by show 3 ≤ sizeLine; decide, fun q hq => ?_⟩
      have hH := hH.add (o := .lst [.bl true, .bl false, .bl false]) hq
      refine ⟨_, _, dp_bls [false, true, false] (hH.at 1 rfl), dp_bls [true, false, false] (hH.at 0 rfl), rfl, rfl, _, rfl, iteF ?_⟩
      refine ⟨_, rfl, by show 3 ≤ sizeLine; decide, fun q hq => ?_⟩
      have hH := hH.add (o := .lst [.bl false, .bl true, .bl false]) hq
      refine ⟨_, _, dp_bls [false, true, false] (hH.at 2 rfl), dp_bls [false, true, false] (hH.at 0 rfl), rfl, rfl, _, rfl, iteT ?_⟩
      exact k _ hH.drop0.drop0.drop0
    · refine ⟨true, PySem.W.exm_ref T.b_HushError T.h_HushError T.t_HushError T.su_OutOfRange_HushError, fun _ a0 _ => ?_, fun z => Bool.noConfusion z⟩
      refine ⟨_, rfl, _, rfl, rfl, T.ec_OutOfRange, _, _, _, rfl, fun u h => h, T.ki_OutOfRange_PowerLost, _, rfl, _, rfl, rfl, T.ec_OutOfRange, _, _, _, rfl, fun u h => h, T.ki_OutOfRange_OutOfOrder, _, rfl, _, rfl, rfl, T.ec_OutOfRange, _, _, _, rfl, fun u h => h, T.ki_OutOfRange_OutOfRange, by show 3 ≤ sizeLine; decide, fun p hp => ?_⟩
      have hH := hH'.add (o := .lst [.bl false, .bl false, .bl true]) hp
      refine ⟨_, rfl, by show 3 ≤ sizeLine; decide, fun q hq => ?_⟩
      have hH := hH.add (o := .lst [.bl true, .bl false, .bl false]) hq
      refine ⟨_, _, dp_bls [false, false, true] (hH.at 1 rfl), dp_bls [true, false, false] (hH.at 0 rfl), rfl, rfl, _, rfl, iteF ?_⟩
      refine ⟨_, rfl, by show 3 ≤ sizeLine; decide, fun q hq => ?_⟩
      have hH := hH.add (o := .lst [.bl false, .bl true, .bl false]) hq
      refine ⟨_, _, dp_bls [false, false, true] (hH.at 2 rfl), dp_bls [false, true, false] (hH.at 0 rfl), rfl, rfl, _, rfl, iteF ?_⟩
      refine ⟨_, rfl, by show 3 ≤ sizeLine; decide, fun q hq => ?_⟩
      have hH := hH.add (o := .lst [.bl false, .bl false, .bl true]) hq
      refine ⟨_, _, dp_bls [false, false, true] (hH.at 3 rfl), dp_bls [false, false, true] (hH.at 0 rfl), rfl, rfl, _, rfl, iteT ?_⟩
      exact k _ hH.drop0.drop0.drop0.drop0
theorem ok__law_expected {f : Addr} {fd : FuncData} (F : Fun K "_law_expected" "_law_expected" s__law_expected f fd) (T : Txt K mg C_HushError C_OutOfRange C_OutOfOrder C_PowerLost C_Disk)  :
    FnOk P w K mg base (L2.CX P w) 1 f fd ["_law_model", "_law_which", "_law_bank", "_law_given"] spExp := by
  refine F.okX sc__law_expected (fun vs H Q E h => ?_) (fun cdv A outer s H vs Q E hr h => ⟨_, (pss_cons (ps_if (pt_cmpR op_eq (pe_ix (ix_listK (K := K)) (pv 0) pe_int (fun _ _ => rfl)) pe_int (nomark _))
      (pss_one (ps_ret pe_str))
      pss_nil)
      (pss_cons (ps_if (pt_cmpR op_gt (pe_ix (ix_listK (K := K)) (pv 0) pe_int (fun _ _ => rfl)) pe_int (nomark _))
      (pss_one (ps_asg (pe_op op_sub (pe_ix (ix_listK (K := K)) (pv 0) pe_int (fun _ _ => rfl)) pe_int) (pg_sub (pv 0) pe_int set_list)))
      pss_nil)
      (pss_cons (ps_set (i := 4) sc__law_expected.nd rfl (Or.inl rfl) (pe_ix (ix_listK (K := K)) (pe_ix (ix_listK (K := K)) (pv 0) pe_int (fun _ _ => rfl)) (pv 2) (fun _ _ => rfl)))
      (pss_cons (ps_set (i := 5) sc__law_expected.nd rfl (Or.inl rfl) (pe_ix (ix_listK (K := K)) (pe_ix (ix_listK (K := K)) (pv 0) pe_int (fun _ _ => rfl)) (pv 2) (fun _ _ => rfl)))
      (pss_cons (ps_if (pt_cmpR op_eq (pv 1) pe_int (nomark _))
      (pss_cons (ps_if (pt_cmpR op_gt (pe_callB (call_lenK (K := K)) (by rfl) T.n_len (by decide +kernel) (pa_cons (pe_ix (ix_listK (K := K)) (pe_ix (ix_listK (K := K)) (pv 0) pe_int (fun _ _ => rfl)) (pe_op op_sub pe_int (pv 2)) (fun _ _ => rfl)) pa_nil)) pe_int (nomark _))
      (pss_one (ps_ret pe_str))
      pss_nil)
      (pss_cons (ps_if (pt_cmpR op_gt (pe_op op_add (pe_op op_add (pe_callB (call_lenK (K := K)) (by rfl) T.n_len (by decide +kernel) (pa_cons (pv 4) pa_nil)) (pe_callB (call_lenK (K := K)) (by rfl) T.n_len (by decide +kernel) (pa_cons (pv 5) pa_nil))) (pe_callB (call_lenK (K := K)) (by rfl) T.n_len (by decide +kernel) (pa_cons (pv 3) pa_nil))) pe_int (nomark _))
      (pss_one (ps_ret pe_str))
      pss_nil)
      (pss_one (ps_asg (pe_op op_cat (pv 5) (pv 3)) (pg_sub (pe_ix (ix_listK (K := K)) (pv 0) pe_int (fun _ _ => rfl)) (pv 2) set_list)))))
      (pss_one (ps_if (pt_cmpR op_eq (pv 1) pe_int (nomark _))
      (pss_cons (ps_asg (pe_op op_cat (pv 4) (pv 5)) (pg_sub (pe_ix (ix_listK (K := K)) (pv 0) pe_int (fun _ _ => rfl)) (pv 2) set_list))
      (pss_one (ps_asg (pe_lst pa_nil) (pg_sub (pe_ix (ix_listK (K := K)) (pv 0) pe_int (fun _ _ => rfl)) (pv 2) set_list))))
      (pss_cons (ps_if (pt_cmpR op_gt (pe_op op_add (pe_callB (call_lenK (K := K)) (by rfl) T.n_len (by decide +kernel) (pa_cons (pe_ix (ix_listK (K := K)) (pe_ix (ix_listK (K := K)) (pv 0) pe_int (fun _ _ => rfl)) pe_int (fun _ _ => rfl)) pa_nil)) (pe_callB (call_lenK (K := K)) (by rfl) T.n_len (by decide +kernel) (pa_cons (pe_ix (ix_listK (K := K)) (pe_ix (ix_listK (K := K)) (pv 0) pe_int (fun _ _ => rfl)) pe_int (fun _ _ => rfl)) pa_nil))) pe_int (nomark _))
      (pss_one (ps_ret pe_str))
      pss_nil)
      (pss_cons (ps_if (PW.pt (pw_or (pt_cmpR op_lt (pv 3) pe_int (nomark _)) (pw_or1 (pt_cmpR op_gt (pv 3) (pe_callB (call_lenK (K := K)) (by rfl) T.n_len (by decide +kernel) (pa_cons (pv 4) pa_nil)) (nomark _)))))
      (pss_one (ps_ret pe_str))
      pss_nil)
      (pss_one (ps_asg (pe_slice (sl_listK (K := K)) (pv 4) po_none (po_some (pv 3))) (pg_sub (pe_ix (ix_listK (K := K)) (pv 0) pe_int (fun _ _ => rfl)) (pv 2) set_list))))))))
      (pss_one (ps_ret pe_str))))))), ?_⟩)
  · obtain ⟨d, t, m, B, b, ok, ⟨a, xs, M, rfl, hx, hH, k⟩ | ⟨M, rfl, hH, k⟩ | ⟨n, M, rfl, hH, k⟩⟩ := h <;> rfl
  obtain ⟨d, t, m, B, b, ok, ⟨a, xs, M, rfl, hx, hH, k⟩ | ⟨M, rfl, hH, k⟩ | ⟨n, M, rfl, hH, k⟩⟩ := h
  · refine ⟨_, rfl, _, _, _, _, rfl, rfl, sqL_of (hH.at 0 rfl), rfl, rfl, _, rfl, ?_⟩
    by_cases c : m.left = 0
    · have e : m.write b xs = (m, 1) := by first | (unfold AM.write; rw [if_pos c]) | (unfold AM.settle; rw [if_pos c]) | (unfold AM.cut; rw [if_pos c])
      rw [e] at k
      exact iteP (p := m.left = 0) c (by simp) (k t H hH)
    refine iteN (p := m.left = 0) c (by simp) ?_
    refine ⟨_, rfl, _, _, _, _, rfl, rfl, sqL_of (hH.at 0 rfl), rfl, _, _, rfl, rfl, _, rfl, ?_⟩
    refine if_join (fun σ' H' => σ' = L2.start ["_law_model", "_law_which", "_law_bank", "_law_given", "_law_settled", "_law_waiting"] [.ref d, .int 0, .int (bi b), .ref a] ∧ Wd B (ML d t m.use ++ ((a, isL xs) :: M)) H') (p := m.left > 0) rfl (fun c2 N kk => ?_) (fun c2 N kk => kk _ _ ⟨rfl, ?_⟩) (fun σ' H' hh => ?_)
    · refine ⟨_, rfl, _, _, _, _, rfl, rfl, sqL_of (hH.at 0 rfl), rfl, _, _, rfl, rfl, _, rfl, _, _, _, _, rfl, rfl, hH.at 0 rfl, rfl, kk _ _ ⟨rfl, ?_⟩⟩
      have e : m.use = { m with left := m.left - 1 } := by unfold AM.use; rw [if_pos c2]
      rw [e]
      exact hH.put 0 rfl
    · have e : m.use = m := by unfold AM.use; rw [if_neg c2]
      rw [e]
      exact hH
    obtain ⟨rfl, hH⟩ := hh
    have hu := use_ok ok
    have l1 := ok_s hu b
    cases b
    · refine ⟨_, rfl, _, _, _, _, rfl, rfl, sqL_of (hH.at 0 rfl), rfl, _, rfl, _, _, _, _, rfl, rfl, sqL_of (hH.at 1 rfl), rfl, _, rfl, _, _, _, _, rfl, rfl, sqL_of (hH.at 0 rfl), rfl, _, rfl, _, _, _, _, rfl, rfl, sqL_of (hH.at 2 rfl), rfl, _, rfl, rfl, _, rfl, iteT ?_⟩
      refine ⟨_, rfl, _, _, _, _, rfl, rfl, sqL_of (hH.at 0 rfl), rfl, _, rfl, _, _, rfl, rfl, _, _, _, _, rfl, rfl, sqL_of (hH.at 2 rfl), rfl, _, _, rfl, .inl (sqL_of (hH.at 6 rfl)), _, _, rfl, rfl, _, rfl, ?_⟩
      by_cases c1 : (m.use.f (!false)).length > 0
      · have e : m.write false xs = (m.use, 2) := by unfold AM.write; rw [if_neg c, if_pos c1]
        rw [e] at k
        exact iteP c1 (pos_len _) (k _ _ hH)
      refine iteN c1 (pos_len _) ?_
      refine ⟨_, rfl, _, _, rfl, .inl (sqL_of (hH.at 3 rfl)), _, rfl, _, _, rfl, .inl (sqL_of (hH.at 5 rfl)), _, _, rfl, rfl, _, rfl, _, _, rfl, .inl (sqL_of (hH.at 7 rfl)), _, _, rfl, rfl, _, _, rfl, rfl, _, rfl, ?_⟩
      by_cases c2 : (m.use.s false).length + (m.use.f false).length + xs.length > 65536
      · have e : m.write false xs = (m.use, 3) := by unfold AM.write; rw [if_neg c, if_neg c1, if_pos c2]
        rw [e] at k
        exact iteP c2 (len3 _ _ _ 65536) (k _ _ hH)
      refine iteN c2 (len3 _ _ _ 65536) ?_
      have e : m.write false xs = (m.use.setF false (m.use.f false ++ xs), 0) := by unfold AM.write; rw [if_neg c, if_neg c1, if_neg c2]
      rw [e] at k
      refine ⟨_, rfl, _, rfl, _, _, _, _, rfl, rfl, hH.at 5 rfl, hH.at 7 rfl, ?_, fun p hp => ?_⟩
      · rw [List.length_map, List.length_map]
        exact sz_le (by have z : ¬ m.use.s0.length + m.use.f0.length + xs.length > 65536 := c2; omega)
      rw [isL_cat]
      have hH := hH.add (o := isL (m.use.f0 ++ xs)) hp
      refine ⟨_, rfl, _, _, _, _, rfl, rfl, sqL_of (hH.at 1 rfl), rfl, _, rfl, _, _, _, _, rfl, rfl, hH.at 3 rfl, rfl, ?_⟩
      have hH := hH.put 3 (o := .lst ([.ref t.f0, .ref t.f1].set 0 (.ref p))) rfl
      refine k { t with f0 := p } _ ?_
      exact Wd.pick (L := [_, _, _, _, _, _, _, _]) hH [1,2,3,4,5,0,7] (by decide) rfl
    · refine ⟨_, rfl, _, _, _, _, rfl, rfl, sqL_of (hH.at 0 rfl), rfl, _, rfl, _, _, _, _, rfl, rfl, sqL_of (hH.at 1 rfl), rfl, _, rfl, _, _, _, _, rfl, rfl, sqL_of (hH.at 0 rfl), rfl, _, rfl, _, _, _, _, rfl, rfl, sqL_of (hH.at 2 rfl), rfl, _, rfl, rfl, _, rfl, iteT ?_⟩
      refine ⟨_, rfl, _, _, _, _, rfl, rfl, sqL_of (hH.at 0 rfl), rfl, _, rfl, _, _, rfl, rfl, _, _, _, _, rfl, rfl, sqL_of (hH.at 2 rfl), rfl, _, _, rfl, .inl (sqL_of (hH.at 5 rfl)), _, _, rfl, rfl, _, rfl, ?_⟩
      by_cases c1 : (m.use.f (!true)).length > 0
      · have e : m.write true xs = (m.use, 2) := by unfold AM.write; rw [if_neg c, if_pos c1]
        rw [e] at k
        exact iteP c1 (pos_len _) (k _ _ hH)
      refine iteN c1 (pos_len _) ?_
      refine ⟨_, rfl, _, _, rfl, .inl (sqL_of (hH.at 4 rfl)), _, rfl, _, _, rfl, .inl (sqL_of (hH.at 6 rfl)), _, _, rfl, rfl, _, rfl, _, _, rfl, .inl (sqL_of (hH.at 7 rfl)), _, _, rfl, rfl, _, _, rfl, rfl, _, rfl, ?_⟩
      by_cases c2 : (m.use.s true).length + (m.use.f true).length + xs.length > 65536
      · have e : m.write true xs = (m.use, 3) := by unfold AM.write; rw [if_neg c, if_neg c1, if_pos c2]
        rw [e] at k
        exact iteP c2 (len3 _ _ _ 65536) (k _ _ hH)
      refine iteN c2 (len3 _ _ _ 65536) ?_
      have e : m.write true xs = (m.use.setF true (m.use.f true ++ xs), 0) := by unfold AM.write; rw [if_neg c, if_neg c1, if_neg c2]
      rw [e] at k
      refine ⟨_, rfl, _, rfl, _, _, _, _, rfl, rfl, hH.at 6 rfl, hH.at 7 rfl, ?_, fun p hp => ?_⟩
      · rw [List.length_map, List.length_map]
        exact sz_le (by have z : ¬ m.use.s1.length + m.use.f1.length + xs.length > 65536 := c2; omega)
      rw [isL_cat]
      have hH := hH.add (o := isL (m.use.f1 ++ xs)) hp
      refine ⟨_, rfl, _, _, _, _, rfl, rfl, sqL_of (hH.at 1 rfl), rfl, _, rfl, _, _, _, _, rfl, rfl, hH.at 3 rfl, rfl, ?_⟩
      have hH := hH.put 3 (o := .lst ([.ref t.f0, .ref t.f1].set 1 (.ref p))) rfl
      refine k { t with f1 := p } _ ?_
      exact Wd.pick (L := [_, _, _, _, _, _, _, _]) hH [1,2,3,4,5,6,0] (by decide) rfl
  · refine ⟨_, rfl, _, _, _, _, rfl, rfl, sqL_of (hH.at 0 rfl), rfl, rfl, _, rfl, ?_⟩
    by_cases c : m.left = 0
    · have e : m.settle b = (m, 1) := by first | (unfold AM.write; rw [if_pos c]) | (unfold AM.settle; rw [if_pos c]) | (unfold AM.cut; rw [if_pos c])
      rw [e] at k
      exact iteP (p := m.left = 0) c (by simp) (k t H hH)
    refine iteN (p := m.left = 0) c (by simp) ?_
    refine ⟨_, rfl, _, _, _, _, rfl, rfl, sqL_of (hH.at 0 rfl), rfl, _, _, rfl, rfl, _, rfl, ?_⟩
    refine if_join (fun σ' H' => σ' = L2.start ["_law_model", "_law_which", "_law_bank", "_law_given", "_law_settled", "_law_waiting"] [.ref d, .int 1, .int (bi b), .non] ∧ Wd B (ML d t m.use ++ M) H') (p := m.left > 0) rfl (fun c2 N kk => ?_) (fun c2 N kk => kk _ _ ⟨rfl, ?_⟩) (fun σ' H' hh => ?_)
    · refine ⟨_, rfl, _, _, _, _, rfl, rfl, sqL_of (hH.at 0 rfl), rfl, _, _, rfl, rfl, _, rfl, _, _, _, _, rfl, rfl, hH.at 0 rfl, rfl, kk _ _ ⟨rfl, ?_⟩⟩
      have e : m.use = { m with left := m.left - 1 } := by unfold AM.use; rw [if_pos c2]
      rw [e]
      exact hH.put 0 rfl
    · have e : m.use = m := by unfold AM.use; rw [if_neg c2]
      rw [e]
      exact hH
    obtain ⟨rfl, hH⟩ := hh
    have hu := use_ok ok
    have l1 := ok_s hu b
    cases b
    · refine ⟨_, rfl, _, _, _, _, rfl, rfl, sqL_of (hH.at 0 rfl), rfl, _, rfl, _, _, _, _, rfl, rfl, sqL_of (hH.at 1 rfl), rfl, _, rfl, _, _, _, _, rfl, rfl, sqL_of (hH.at 0 rfl), rfl, _, rfl, _, _, _, _, rfl, rfl, sqL_of (hH.at 2 rfl), rfl, _, rfl, rfl, _, rfl, iteF ⟨_, rfl, rfl, _, rfl, iteT ?_⟩⟩
      have e : m.settle false = ((m.use.setS false (m.use.s false ++ m.use.f false)).setF false [], 0) := by unfold AM.settle; rw [if_neg c]
      rw [e] at k
      refine ⟨_, rfl, _, rfl, _, _, _, _, rfl, rfl, hH.at 3 rfl, hH.at 5 rfl, ?_, fun p hp => ?_⟩
      · rw [List.length_map, List.length_map]
        exact sz_le (Nat.le_trans l1 (by decide))
      rw [isL_cat]
      have hH := hH.add (o := isL (m.use.s0 ++ m.use.f0)) hp
      refine ⟨_, rfl, _, _, _, _, rfl, rfl, sqL_of (hH.at 1 rfl), rfl, _, rfl, _, _, _, _, rfl, rfl, hH.at 2 rfl, rfl, ?_⟩
      have hH := hH.put 2 (o := .lst ([.ref t.s0, .ref t.s1].set 0 (.ref p))) rfl
      generalize hX : upd _ _ _ = Hn; replace hH := Eq.mp (congrArg (Wd _ _) hX) hH; clear hX
      refine ⟨by show 0 ≤ sizeLine; decide, fun p2 hp2 => ?_⟩
      have hH := hH.add (o := isL []) hp2
      refine ⟨_, rfl, _, _, _, _, rfl, rfl, sqL_of (hH.at 2 rfl), rfl, _, rfl, _, _, _, _, rfl, rfl, hH.at 4 rfl, rfl, ?_⟩
      have hH := hH.put 4 (o := .lst ([.ref t.f0, .ref t.f1].set 0 (.ref p2))) rfl
      refine k { t with f0 := p2, s0 := p } _ ?_
      exact Wd.pick (L := [_, _, _, _, _, _, _, _, _]) hH [2,3,4,1,6,0,8] (by decide) rfl
    · refine ⟨_, rfl, _, _, _, _, rfl, rfl, sqL_of (hH.at 0 rfl), rfl, _, rfl, _, _, _, _, rfl, rfl, sqL_of (hH.at 1 rfl), rfl, _, rfl, _, _, _, _, rfl, rfl, sqL_of (hH.at 0 rfl), rfl, _, rfl, _, _, _, _, rfl, rfl, sqL_of (hH.at 2 rfl), rfl, _, rfl, rfl, _, rfl, iteF ⟨_, rfl, rfl, _, rfl, iteT ?_⟩⟩
      have e : m.settle true = ((m.use.setS true (m.use.s true ++ m.use.f true)).setF true [], 0) := by unfold AM.settle; rw [if_neg c]
      rw [e] at k
      refine ⟨_, rfl, _, rfl, _, _, _, _, rfl, rfl, hH.at 4 rfl, hH.at 6 rfl, ?_, fun p hp => ?_⟩
      · rw [List.length_map, List.length_map]
        exact sz_le (Nat.le_trans l1 (by decide))
      rw [isL_cat]
      have hH := hH.add (o := isL (m.use.s1 ++ m.use.f1)) hp
      refine ⟨_, rfl, _, _, _, _, rfl, rfl, sqL_of (hH.at 1 rfl), rfl, _, rfl, _, _, _, _, rfl, rfl, hH.at 2 rfl, rfl, ?_⟩
      have hH := hH.put 2 (o := .lst ([.ref t.s0, .ref t.s1].set 1 (.ref p))) rfl
      generalize hX : upd _ _ _ = Hn; replace hH := Eq.mp (congrArg (Wd _ _) hX) hH; clear hX
      refine ⟨by show 0 ≤ sizeLine; decide, fun p2 hp2 => ?_⟩
      have hH := hH.add (o := isL []) hp2
      refine ⟨_, rfl, _, _, _, _, rfl, rfl, sqL_of (hH.at 2 rfl), rfl, _, rfl, _, _, _, _, rfl, rfl, hH.at 4 rfl, rfl, ?_⟩
      have hH := hH.put 4 (o := .lst ([.ref t.f0, .ref t.f1].set 1 (.ref p2))) rfl
      refine k { t with f1 := p2, s1 := p } _ ?_
      exact Wd.pick (L := [_, _, _, _, _, _, _, _, _]) hH [2,3,4,5,1,7,0] (by decide) rfl
  · refine ⟨_, rfl, _, _, _, _, rfl, rfl, sqL_of (hH.at 0 rfl), rfl, rfl, _, rfl, ?_⟩
    by_cases c : m.left = 0
    · have e : m.cut b n = (m, 1) := by first | (unfold AM.write; rw [if_pos c]) | (unfold AM.settle; rw [if_pos c]) | (unfold AM.cut; rw [if_pos c])
      rw [e] at k
      exact iteP (p := m.left = 0) c (by simp) (k t H hH)
    refine iteN (p := m.left = 0) c (by simp) ?_
    refine ⟨_, rfl, _, _, _, _, rfl, rfl, sqL_of (hH.at 0 rfl), rfl, _, _, rfl, rfl, _, rfl, ?_⟩
    refine if_join (fun σ' H' => σ' = L2.start ["_law_model", "_law_which", "_law_bank", "_law_given", "_law_settled", "_law_waiting"] [.ref d, .int 2, .int (bi b), .int n] ∧ Wd B (ML d t m.use ++ M) H') (p := m.left > 0) rfl (fun c2 N kk => ?_) (fun c2 N kk => kk _ _ ⟨rfl, ?_⟩) (fun σ' H' hh => ?_)
    · refine ⟨_, rfl, _, _, _, _, rfl, rfl, sqL_of (hH.at 0 rfl), rfl, _, _, rfl, rfl, _, rfl, _, _, _, _, rfl, rfl, hH.at 0 rfl, rfl, kk _ _ ⟨rfl, ?_⟩⟩
      have e : m.use = { m with left := m.left - 1 } := by unfold AM.use; rw [if_pos c2]
      rw [e]
      exact hH.put 0 rfl
    · have e : m.use = m := by unfold AM.use; rw [if_neg c2]
      rw [e]
      exact hH
    obtain ⟨rfl, hH⟩ := hh
    have hu := use_ok ok
    have l1 := ok_s hu b
    cases b
    · refine ⟨_, rfl, _, _, _, _, rfl, rfl, sqL_of (hH.at 0 rfl), rfl, _, rfl, _, _, _, _, rfl, rfl, sqL_of (hH.at 1 rfl), rfl, _, rfl, _, _, _, _, rfl, rfl, sqL_of (hH.at 0 rfl), rfl, _, rfl, _, _, _, _, rfl, rfl, sqL_of (hH.at 2 rfl), rfl, _, rfl, rfl, _, rfl, iteF ⟨_, rfl, rfl, _, rfl, iteF ?_⟩⟩
      refine ⟨_, rfl, _, _, _, _, rfl, rfl, sqL_of (hH.at 0 rfl), rfl, _, _, _, _, rfl, rfl, sqL_of (hH.at 2 rfl), rfl, _, _, rfl, .inl (sqL_of (hH.at 5 rfl)), _, rfl, _, _, _, _, rfl, rfl, sqL_of (hH.at 0 rfl), rfl, _, _, _, _, rfl, rfl, sqL_of (hH.at 2 rfl), rfl, _, _, rfl, .inl (sqL_of (hH.at 6 rfl)), _, _, rfl, rfl, _, _, rfl, rfl, _, rfl, ?_⟩
      by_cases c1 : m.use.f0.length + m.use.f1.length > 0
      · have e : m.cut false n = (m.use, 2) := by unfold AM.cut; rw [if_neg c, if_pos c1]
        rw [e] at k
        exact iteP c1 (len2 _ _ 0) (k _ _ hH)
      refine iteN c1 (len2 _ _ 0) ?_
      refine ⟨_, rfl, _, _, rfl, rfl, _, rfl, ?_⟩
      by_cases c2 : n < 0
      · have e : m.cut false n = (m.use, 3) := by unfold AM.cut; rw [if_neg c, if_neg c1, if_pos (.inl c2)]
        rw [e] at k
        exact iteP c2 rfl (iteT (k _ _ hH))
      refine iteN c2 rfl ?_
      refine ⟨_, rfl, _, rfl, _, _, rfl, .inl (sqL_of (hH.at 3 rfl)), _, _, rfl, rfl, _, rfl, ?_⟩
      by_cases c3 : n > (m.use.s false).length
      · have e : m.cut false n = (m.use, 3) := by unfold AM.cut; rw [if_neg c, if_neg c1, if_pos (.inr c3)]
        rw [e] at k
        exact iteP c3 (by rw [List.length_map]; rfl) (k _ _ hH)
      refine iteN c3 (by rw [List.length_map]; rfl) ?_
      have e : m.cut false n = (m.use.setS false ((m.use.s false).take n.toNat), 0) := by unfold AM.cut; rw [if_neg c, if_neg c1, if_neg (by omega)]
      rw [e] at k
      refine ⟨_, rfl, _, rfl, _, rfl, _, _, rfl, sqL_of (hH.at 3 rfl), fun p hp => ?_⟩
      have e2 : cutV (m.use.s0.map V.int) none (some n) = (m.use.s0.take n.toNat).map V.int := cut_to (by omega)
      rw [e2]
      have hH := hH.add (o := isL (m.use.s0.take n.toNat)) hp
      refine ⟨_, rfl, _, _, _, _, rfl, rfl, sqL_of (hH.at 1 rfl), rfl, _, rfl, _, _, _, _, rfl, rfl, hH.at 2 rfl, rfl, ?_⟩
      have hH := hH.put 2 (o := .lst ([.ref t.s0, .ref t.s1].set 0 (.ref p))) rfl
      refine k { t with s0 := p } _ ?_
      exact Wd.pick (L := [_, _, _, _, _, _, _, _]) hH [1,2,3,0,5,6,7] (by decide) rfl
    · refine ⟨_, rfl, _, _, _, _, rfl, rfl, sqL_of (hH.at 0 rfl), rfl, _, rfl, _, _, _, _, rfl, rfl, sqL_of (hH.at 1 rfl), rfl, _, rfl, _, _, _, _, rfl, rfl, sqL_of (hH.at 0 rfl), rfl, _, rfl, _, _, _, _, rfl, rfl, sqL_of (hH.at 2 rfl), rfl, _, rfl, rfl, _, rfl, iteF ⟨_, rfl, rfl, _, rfl, iteF ?_⟩⟩
      refine ⟨_, rfl, _, _, _, _, rfl, rfl, sqL_of (hH.at 0 rfl), rfl, _, _, _, _, rfl, rfl, sqL_of (hH.at 2 rfl), rfl, _, _, rfl, .inl (sqL_of (hH.at 5 rfl)), _, rfl, _, _, _, _, rfl, rfl, sqL_of (hH.at 0 rfl), rfl, _, _, _, _, rfl, rfl, sqL_of (hH.at 2 rfl), rfl, _, _, rfl, .inl (sqL_of (hH.at 6 rfl)), _, _, rfl, rfl, _, _, rfl, rfl, _, rfl, ?_⟩
      by_cases c1 : m.use.f0.length + m.use.f1.length > 0
      · have e : m.cut true n = (m.use, 2) := by unfold AM.cut; rw [if_neg c, if_pos c1]
        rw [e] at k
        exact iteP c1 (len2 _ _ 0) (k _ _ hH)
      refine iteN c1 (len2 _ _ 0) ?_
      refine ⟨_, rfl, _, _, rfl, rfl, _, rfl, ?_⟩
      by_cases c2 : n < 0
      · have e : m.cut true n = (m.use, 3) := by unfold AM.cut; rw [if_neg c, if_neg c1, if_pos (.inl c2)]
        rw [e] at k
        exact iteP c2 rfl (iteT (k _ _ hH))
      refine iteN c2 rfl ?_
      refine ⟨_, rfl, _, rfl, _, _, rfl, .inl (sqL_of (hH.at 4 rfl)), _, _, rfl, rfl, _, rfl, ?_⟩
      by_cases c3 : n > (m.use.s true).length
      · have e : m.cut true n = (m.use, 3) := by unfold AM.cut; rw [if_neg c, if_neg c1, if_pos (.inr c3)]
        rw [e] at k
        exact iteP c3 (by rw [List.length_map]; rfl) (k _ _ hH)
      refine iteN c3 (by rw [List.length_map]; rfl) ?_
      have e : m.cut true n = (m.use.setS true ((m.use.s true).take n.toNat), 0) := by unfold AM.cut; rw [if_neg c, if_neg c1, if_neg (by omega)]
      rw [e] at k
      refine ⟨_, rfl, _, rfl, _, rfl, _, _, rfl, sqL_of (hH.at 4 rfl), fun p hp => ?_⟩
      have e2 : cutV (m.use.s1.map V.int) none (some n) = (m.use.s1.take n.toNat).map V.int := cut_to (by omega)
      rw [e2]
      have hH := hH.add (o := isL (m.use.s1.take n.toNat)) hp
      refine ⟨_, rfl, _, _, _, _, rfl, rfl, sqL_of (hH.at 1 rfl), rfl, _, rfl, _, _, _, _, rfl, rfl, hH.at 2 rfl, rfl, ?_⟩
      have hH := hH.put 2 (o := .lst ([.ref t.s0, .ref t.s1].set 1 (.ref p))) rfl
      refine k { t with s1 := p } _ ?_
      exact Wd.pick (L := [_, _, _, _, _, _, _, _]) hH [1,2,3,4,0,6,7] (by decide) rfl
theorem ok__law_crash {f : Addr} {fd : FuncData} (F : Fun K "_law_crash" "_law_crash" s__law_crash f fd) (T : Txt K mg C_HushError C_OutOfRange C_OutOfOrder C_PowerLost C_Disk)  :
    FnOk P w K mg base (L2.CX P w) 1 f fd ["_law_model", "_law_kept", "_law_torn"] spMCr := by
  refine F.okX sc__law_crash (fun vs H Q E h => ?_) (fun cdv A outer s H vs Q E hr h => ⟨_, (pss_cons (ps_for (passes_of rfl) rfl (pi_range1 (by rfl) T.n_range (pa_cons pe_int pa_nil)) (pg_name (i := 3) sc__law_crash.nd rfl (Or.inl rfl))
      (pss_cons (ps_set (i := 4) sc__law_crash.nd rfl (Or.inl rfl) (pe_ix (ix_listK (K := K)) (pe_ix (ix_listK (K := K)) (pv 0) pe_int (fun _ _ => rfl)) (pv 3) (fun _ _ => rfl)))
      (pss_cons (ps_set (i := 5) sc__law_crash.nd rfl (Or.inl rfl) (pe_op op_sub (pe_callB (call_lenK (K := K)) (by rfl) T.n_len (by decide +kernel) (pa_cons (pv 4) pa_nil)) (pe_callB (call_minK rfl) (by rfl) T.n_min (by decide +kernel) (pa_cons (pv 1) (pa_cons (pe_callB (call_lenK (K := K)) (by rfl) T.n_len (by decide +kernel) (pa_cons (pv 4) pa_nil)) pa_nil)))))
      (pss_cons (ps_asg (pe_op op_cat (pe_op op_cat (pe_ix (ix_listK (K := K)) (pe_ix (ix_listK (K := K)) (pv 0) pe_int (fun _ _ => rfl)) (pv 3) (fun _ _ => rfl)) (pe_slice (sl_listK (K := K)) (pv 4) po_none (po_some (pv 1)))) (pe_op op_rep (pe_lst (pa_cons pe_int pa_nil)) (pe_callB (call_minK rfl) (by rfl) T.n_min (by decide +kernel) (pa_cons (pv 2) (pa_cons (pv 5) pa_nil))))) (pg_sub (pe_ix (ix_listK (K := K)) (pv 0) pe_int (fun _ _ => rfl)) (pv 3) set_list))
      (pss_one (ps_asg (pe_lst pa_nil) (pg_sub (pe_ix (ix_listK (K := K)) (pv 0) pe_int (fun _ _ => rfl)) (pv 3) set_list)))))))
      (pss_cons (ps_asg (pe_un un_neg pe_int) (pg_sub (pv 0) pe_int set_list))
      (pss_one (ps_asg (pe_op op_add (pe_ix (ix_listK (K := K)) (pv 0) pe_int (fun _ _ => rfl)) pe_int) (pg_sub (pv 0) pe_int set_list))))), ?_⟩)
  · obtain ⟨d, t, m, B, M, k, n, rfl, hk, hn, ok, hH, kQ⟩ := h <;> rfl
  obtain ⟨d, t, m, B, M, k, n, rfl, hk, hn, ok, hH, kQ⟩ := h
  refine ⟨_, rfl, by decide, by decide, for_rangeU (n := 2) ?_⟩
  have eb : ∀ (f : List Int) (z : Int), z = (if ((f.map V.int).length : Int) - (if ((f.map V.int).length : Int) < k then ((f.map V.int).length : Int) else k) < n then ((f.map V.int).length : Int) - (if ((f.map V.int).length : Int) < k then ((f.map V.int).length : Int) else k) else n) →
      z.toNat = min n.toNat (f.length - (f.take k.toNat).length) ∧ 0 ≤ z ∧ z ≤ f.length := fun f z ez => by
    rw [List.length_map] at ez
    rw [List.length_take]
    split at ez <;> split at ez <;> omega
  have lb : (m.s0).length + (m.f0).length ≤ 65536 := ok_s ok false
  refine ⟨_, rfl, _, _, _, _, rfl, rfl, sqL_of (hH.at 0 rfl), rfl, _, rfl, _, _, _, _, rfl, rfl, sqL_of (hH.at 2 rfl), rfl, ?_⟩
  refine ⟨_, rfl, _, _, rfl, .inl (sqL_of (hH.at 5 rfl)), _, rfl, _, rfl, _, _, rfl, .inl (sqL_of (hH.at 5 rfl)), _, _, rfl, _, _, rfl, rfl, ?_⟩
  refine ⟨_, rfl, _, _, _, _, rfl, rfl, sqL_of (hH.at 0 rfl), rfl, _, rfl, _, _, _, _, rfl, rfl, sqL_of (hH.at 1 rfl), rfl, _, rfl, _, rfl, _, rfl, _, _, rfl, sqL_of (hH.at 5 rfl), fun p hp => ?_⟩
  have e2 : cutV (m.f0.map V.int) none (some k) = (m.f0.take k.toNat).map V.int := cut_to hk
  rw [e2]
  have hH := hH.add (o := isL (m.f0.take k.toNat)) hp
  have cl := cr_len m.s0 m.f0 k.toNat n.toNat
  rw [List.length_append, List.length_append] at cl
  have lt : (m.f0.take k.toNat).length ≤ m.f0.length := by rw [List.length_take]; omega
  refine ⟨_, _, _, _, rfl, rfl, hH.at (1 + 3) rfl, hH.at 0 rfl, ?_, fun p2 hp2 => ?_⟩
  · rw [List.length_map, List.length_map]
    exact sz_le (by omega)
  rw [isL_cat]
  have hH := hH.add (o := isL (m.s0 ++ m.f0.take k.toNat)) hp2
  refine ⟨(by show 1 ≤ sizeLine; decide), fun q0 hq0 => ?_⟩
  have hH := hH.add (o := .lst [.int 0]) hq0
  obtain ⟨z, ez⟩ : ∃ z, z = (if ((m.f0.map V.int).length : Int) - (if ((m.f0.map V.int).length : Int) < k then ((m.f0.map V.int).length : Int) else k) < n then ((m.f0.map V.int).length : Int) - (if ((m.f0.map V.int).length : Int) < k then ((m.f0.map V.int).length : Int) else k) else n) := ⟨_, rfl⟩
  obtain ⟨e3, z0, z1⟩ := eb _ _ ez
  refine ⟨_, rfl, _, rfl, _, _, rfl, _, z, _, rfl, congrArg V.int ez.symm, hH.at 0 rfl, by omega, by omega, (by show 1 * _ ≤ _; rw [Nat.one_mul]; exact sz_le (by omega)), fun q hq => ?_⟩
  clear ez
  have e4 : (List.replicate z.toNat [V.int 0]).flatten = (List.replicate (min n.toNat (m.f0.length - (m.f0.take k.toNat).length)) 0).map V.int := by rw [rep_int, e3]
  rw [e4]
  have hH := hH.add (o := isL (List.replicate (min n.toNat (m.f0.length - (m.f0.take k.toNat).length)) 0)) hq
  refine ⟨_, _, _, _, rfl, rfl, hH.at 2 rfl, hH.at 0 rfl, ?_, fun r hr => ?_⟩
  · rw [List.length_map, List.length_map, List.length_append]
    exact sz_le (by omega)
  rw [isL_cat, List.append_assoc]
  have hH := hH.add (o := isL (m.s0 ++ (m.f0.take k.toNat ++ List.replicate (min n.toNat (m.f0.length - (m.f0.take k.toNat).length)) 0))) hr
  generalize hX : upd _ _ _ = Hn; replace hH := Eq.mp (congrArg (Wd _ _) hX) hH; clear hX
  refine ⟨_, rfl, _, _, _, _, rfl, rfl, sqL_of (hH.at 5 rfl), rfl, _, rfl, _, _, _, _, rfl, rfl, hH.at 6 rfl, rfl, ?_⟩
  have hH := hH.put 6 (o := .lst ([.ref t.s0, .ref t.s1].set 0 (.ref r))) rfl
  generalize hX : upd _ _ _ = Hn; replace hH := Eq.mp (congrArg (Wd _ _) hX) hH; clear hX
  refine ⟨by show 0 ≤ sizeLine; decide, fun r2 hr2 => ?_⟩
  have hH := hH.add (o := isL []) hr2
  refine ⟨_, rfl, _, _, _, _, rfl, rfl, sqL_of (hH.at 6 rfl), rfl, _, rfl, _, _, _, _, rfl, rfl, hH.at 8 rfl, rfl, ?_⟩
  have hH := hH.put 8 (o := .lst ([.ref t.f0, .ref t.f1].set 0 (.ref r2))) rfl
  have hH := Wd.pick (L := [_, _, _, _, _, _, _, _, _, _, _, _, _]) (L' := ML d { t with f0 := r2, s0 := r } (crB m false k.toNat n.toNat)) hH [6,7,8,1,10,0,12] (by decide) rfl
  have ok1 := ok_crB ok false k.toNat n.toNat
  generalize emm1 : crB m false k.toNat n.toNat = m1 at hH ok1
  generalize ({ t with f0 := r2, s0 := r } : DT) = t1 at hH
  generalize hX : upd _ _ _ = Hn; replace hH := Eq.mp (congrArg (Wd _ _) hX) hH; clear hX
  clear lb cl e2 e3 e4
  have lb : (m1.s1).length + (m1.f1).length ≤ 65536 := ok_s ok1 true
  refine ⟨_, rfl, _, _, _, _, rfl, rfl, sqL_of (hH.at 0 rfl), rfl, _, rfl, _, _, _, _, rfl, rfl, sqL_of (hH.at 2 rfl), rfl, ?_⟩
  refine ⟨_, rfl, _, _, rfl, .inl (sqL_of (hH.at 6 rfl)), _, rfl, _, rfl, _, _, rfl, .inl (sqL_of (hH.at 6 rfl)), _, _, rfl, _, _, rfl, rfl, ?_⟩
  refine ⟨_, rfl, _, _, _, _, rfl, rfl, sqL_of (hH.at 0 rfl), rfl, _, rfl, _, _, _, _, rfl, rfl, sqL_of (hH.at 1 rfl), rfl, _, rfl, _, rfl, _, rfl, _, _, rfl, sqL_of (hH.at 6 rfl), fun p hp => ?_⟩
  have e2 : cutV (m1.f1.map V.int) none (some k) = (m1.f1.take k.toNat).map V.int := cut_to hk
  rw [e2]
  have hH := hH.add (o := isL (m1.f1.take k.toNat)) hp
  have cl := cr_len m1.s1 m1.f1 k.toNat n.toNat
  rw [List.length_append, List.length_append] at cl
  have lt : (m1.f1.take k.toNat).length ≤ m1.f1.length := by rw [List.length_take]; omega
  refine ⟨_, _, _, _, rfl, rfl, hH.at (1 + 4) rfl, hH.at 0 rfl, ?_, fun p2 hp2 => ?_⟩
  · rw [List.length_map, List.length_map]
    exact sz_le (by omega)
  rw [isL_cat]
  have hH := hH.add (o := isL (m1.s1 ++ m1.f1.take k.toNat)) hp2
  refine ⟨(by show 1 ≤ sizeLine; decide), fun q0 hq0 => ?_⟩
  have hH := hH.add (o := .lst [.int 0]) hq0
  obtain ⟨z, ez⟩ : ∃ z, z = (if ((m1.f1.map V.int).length : Int) - (if ((m1.f1.map V.int).length : Int) < k then ((m1.f1.map V.int).length : Int) else k) < n then ((m1.f1.map V.int).length : Int) - (if ((m1.f1.map V.int).length : Int) < k then ((m1.f1.map V.int).length : Int) else k) else n) := ⟨_, rfl⟩
  obtain ⟨e3, z0, z1⟩ := eb _ _ ez
  refine ⟨_, rfl, _, rfl, _, _, rfl, _, z, _, rfl, congrArg V.int ez.symm, hH.at 0 rfl, by omega, by omega, (by show 1 * _ ≤ _; rw [Nat.one_mul]; exact sz_le (by omega)), fun q hq => ?_⟩
  clear ez
  have e4 : (List.replicate z.toNat [V.int 0]).flatten = (List.replicate (min n.toNat (m1.f1.length - (m1.f1.take k.toNat).length)) 0).map V.int := by rw [rep_int, e3]
  rw [e4]
  have hH := hH.add (o := isL (List.replicate (min n.toNat (m1.f1.length - (m1.f1.take k.toNat).length)) 0)) hq
  refine ⟨_, _, _, _, rfl, rfl, hH.at 2 rfl, hH.at 0 rfl, ?_, fun r hr => ?_⟩
  · rw [List.length_map, List.length_map, List.length_append]
    exact sz_le (by omega)
  rw [isL_cat, List.append_assoc]
  have hH := hH.add (o := isL (m1.s1 ++ (m1.f1.take k.toNat ++ List.replicate (min n.toNat (m1.f1.length - (m1.f1.take k.toNat).length)) 0))) hr
  generalize hX : upd _ _ _ = Hn; replace hH := Eq.mp (congrArg (Wd _ _) hX) hH; clear hX
  refine ⟨_, rfl, _, _, _, _, rfl, rfl, sqL_of (hH.at 5 rfl), rfl, _, rfl, _, _, _, _, rfl, rfl, hH.at 6 rfl, rfl, ?_⟩
  have hH := hH.put 6 (o := .lst ([.ref t1.s0, .ref t1.s1].set 1 (.ref r))) rfl
  generalize hX : upd _ _ _ = Hn; replace hH := Eq.mp (congrArg (Wd _ _) hX) hH; clear hX
  refine ⟨by show 0 ≤ sizeLine; decide, fun r2 hr2 => ?_⟩
  have hH := hH.add (o := isL []) hr2
  refine ⟨_, rfl, _, _, _, _, rfl, rfl, sqL_of (hH.at 6 rfl), rfl, _, rfl, _, _, _, _, rfl, rfl, hH.at 8 rfl, rfl, ?_⟩
  have hH := hH.put 8 (o := .lst ([.ref t1.f0, .ref t1.f1].set 1 (.ref r2))) rfl
  have hH := Wd.pick (L := [_, _, _, _, _, _, _, _, _, _, _, _, _]) (L' := ML d { t1 with f1 := r2, s1 := r } (crB m1 true k.toNat n.toNat)) hH [6,7,8,9,1,11,0] (by decide) rfl
  have ok2 := ok_crB ok1 true k.toNat n.toNat
  generalize emm2 : crB m1 true k.toNat n.toNat = m2 at hH ok2
  generalize ({ t1 with f1 := r2, s1 := r } : DT) = t2 at hH
  generalize hX : upd _ _ _ = Hn; replace hH := Eq.mp (congrArg (Wd _ _) hX) hH; clear hX
  clear lb cl e2 e3 e4
  refine ⟨_, rfl, _, rfl, _, _, _, _, rfl, rfl, hH.at 0 rfl, rfl, ?_⟩
  have hH := hH.put 0 (o := .lst [.ref t2.aS, .ref t2.aF, .int (-1), .int m2.cr]) rfl
  refine ⟨_, rfl, _, _, _, _, rfl, rfl, sqL_of (hH.at 0 rfl), rfl, _, _, rfl, rfl, _, rfl, _, _, _, _, rfl, rfl, hH.at 0 rfl, rfl, ?_⟩
  have e : m.crash k.toNat n.toNat = { m2 with left := -1, cr := m2.cr + 1 } := by unfold AM.crash; rw [emm1, emm2, ← emm2, ← emm1]; rfl
  rw [e] at kQ
  refine kQ t2 _ ?_
  exact hH.put 0 rfl
theorem ok__law_is_same {f : Addr} {fd : FuncData} (F : Fun K "_law_is_same" "_law_is_same" s__law_is_same f fd) (T : Txt K mg C_HushError C_OutOfRange C_OutOfOrder C_PowerLost C_Disk) (GM_Disk_read : GM P w K mg base C_Disk "read" 1 ["self", "bank"] (spRead C_Disk)) (GM_Disk_pending : GM P w K mg base C_Disk "pending" 1 ["self"] (spPend C_Disk)) (G__law_is_integer : GF P w K mg base "_law_is_integer" 1 ["_law_actual"] spIsInt) (G__law_says : GF P w K mg base "_law_says" 1 ["_law_actual", "_law_expected_here"] spSays) (GM_Disk_has_power : GM P w K mg base C_Disk "has_power" 1 ["self"] (spHas C_Disk)) (GM_Disk_crashes : GM P w K mg base C_Disk "crashes" 1 ["self"] (spCrs C_Disk)) :
    FnOk P w K mg base (L2.CX P w) 2 f fd ["_law_disk", "_law_model"] (spSame C_Disk) := by
  refine F.okX sc__law_is_same (fun vs H Q E h => ?_) (fun cdv A outer s H vs Q E hr h => ⟨_, (pss_cons (ps_for (passes_of rfl) rfl (pi_range1 (by rfl) T.n_range (pa_cons pe_int pa_nil)) (pg_name (i := 2) sc__law_is_same.nd rfl (Or.inl rfl))
      (pss_cons (ps_set (i := 3) sc__law_is_same.nd rfl (Or.inl rfl) (pe_methG (pv 0) T.c_Disk GM_Disk_read (hr.mono (by decide)) (takes_of rfl rfl rfl rfl) (pa_cons (pv 2) pa_nil)))
      (pss_cons (ps_if (PW.pt (pw_or (pt_not (pt_val (pe_callB (call_isiK' (K := K)) (by rfl) T.n_isinstance (by decide +kernel) (pa_cons (pv 3) (pa_cons (pe_bltn (v := .ty "list") (u := .type "list") (by rfl) T.n_list (by decide +kernel) rfl) pa_nil))))) (pw_or1 (pt_cmpR (op_neDK (K := K) (by exact hr.units)) (pv 3) (pe_op op_cat (pe_ix (ix_listK (K := K)) (pe_ix (ix_listK (K := K)) (pv 1) pe_int (fun _ _ => rfl)) (pv 2) (fun _ _ => rfl)) (pe_ix (ix_listK (K := K)) (pe_ix (ix_listK (K := K)) (pv 1) pe_int (fun _ _ => rfl)) (pv 2) (fun _ _ => rfl))) (nomark _)))))
      (pss_one (ps_ret pe_bl))
      pss_nil)
      (pss_one (ps_expr (pe_bmK (K := K) PySem.F.plainAttrs_list PySem.F.slot_list_append PySem.F.type_list_append mt_append (pv 3) (pa_cons pe_int pa_nil)))))))
      (pss_cons (ps_if (PW.pt (pw_or (pt_cmpR op_ne (pe_methG0 (pv 0) T.c_Disk GM_Disk_pending (hr.mono (by decide)) (takes_of rfl rfl rfl rfl)) (pe_op op_add (pe_callB (call_lenK (K := K)) (by rfl) T.n_len (by decide +kernel) (pa_cons (pe_ix (ix_listK (K := K)) (pe_ix (ix_listK (K := K)) (pv 1) pe_int (fun _ _ => rfl)) pe_int (fun _ _ => rfl)) pa_nil)) (pe_callB (call_lenK (K := K)) (by rfl) T.n_len (by decide +kernel) (pa_cons (pe_ix (ix_listK (K := K)) (pe_ix (ix_listK (K := K)) (pv 1) pe_int (fun _ _ => rfl)) pe_int (fun _ _ => rfl)) pa_nil))) (nomark _)) (pw_or1 (pt_not (pt_val (pe_callG G__law_is_integer (hr.mono (by decide)) (takes_of rfl rfl rfl rfl) (pa_cons (pe_methG0 (pv 0) T.c_Disk GM_Disk_pending (hr.mono (by decide)) (takes_of rfl rfl rfl rfl)) pa_nil)))))))
      (pss_one (ps_ret pe_bl))
      pss_nil)
      (pss_one (ps_ret (pe_and (pe_callG G__law_says (hr.mono (by decide)) (takes_of rfl rfl rfl rfl) (pa_cons (pe_methG0 (pv 0) T.c_Disk GM_Disk_has_power (hr.mono (by decide)) (takes_of rfl rfl rfl rfl)) (pa_cons (pe_cmpR op_ne (pe_ix (ix_listK (K := K)) (pv 1) pe_int (fun _ _ => rfl)) pe_int (nomark _)) pa_nil))) (pe_one (pe_cmpR op_eq (pe_methG0 (pv 0) T.c_Disk GM_Disk_crashes (hr.mono (by decide)) (takes_of rfl rfl rfl rfl)) (pe_ix (ix_listK (K := K)) (pv 1) pe_int (fun _ _ => rfl)) (nomark _)))))))), ?_⟩)
  · obtain ⟨d, a, t, t2, ar, de, m, B, M, rfl, ok, hR, hH, k⟩ := h <;> rfl
  obtain ⟨d, a, t, t2, ar, de, m, B, M, rfl, ok, hR, hH, k⟩ := h
  refine ⟨_, rfl, by decide, by decide, for_rangeU (n := 2) ?_⟩
  have lfalse := ok_s ok false
  refine ⟨_, rfl, _, _, _, rfl, hH.at 0 rfl, rfl, _, rfl, d, t, ar, de, m, B, _, false, rfl, ok, hH, fun p H1 hH => ?_⟩
  refine ⟨_, rfl, _, _, _, _, _, rfl, .ty _, .base (.lst (hH.at 0 rfl)), kit_ty kit_ll, _, rfl, iteF ?_⟩
  refine ⟨_, rfl, _, rfl, _, _, _, _, rfl, rfl, sqL_of (hH.at 8 rfl), rfl, _, rfl, _, _, _, _, rfl, rfl, sqL_of (hH.at 9 rfl), rfl, _, rfl, _, _, _, _, rfl, rfl, sqL_of (hH.at 8 rfl), rfl, _, rfl, _, _, _, _, rfl, rfl, sqL_of (hH.at 10 rfl), rfl, _, _, _, _, rfl, rfl, hH.at 11 rfl, hH.at 13 rfl, ?_, fun q hq => ?_⟩
  · rw [List.length_map, List.length_map]
    exact sz_le (Nat.le_trans lfalse (by decide))
  rw [isL_cat]
  have hH := hH.add (o := isL (m.s0 ++ m.f0)) hq
  refine ⟨_, _, dp_ints (sqL_of (hH.at 1 rfl)), dp_ints (sqL_of (hH.at 0 rfl)), shaped_ints _, shaped_ints _, _, rfl, ?_⟩
  rw [eqD_ints, decide_eq_true (show m.s false ++ m.f false = m.s0 ++ m.f0 from rfl)]
  refine iteF ?_
  refine ⟨_, rfl, .inl ⟨rfl, _, sqL_of (hH.at 1 rfl)⟩, _, _, _, rfl, rfl, hH.at 1 rfl, ?_, ?_⟩
  · rw [List.length_map, List.length_append]
    exact sz_lt (Nat.le_trans lfalse (by decide))
  have hH := hH.put 1 (o := .lst ((m.s false ++ m.f false).map V.int ++ [.int 1])) rfl
  generalize hX : upd _ _ _ = Hn; replace hH := Eq.mp (congrArg (Wd _ _) hX) hH; clear hX
  replace hH := hH.drop0.drop0
  have ltrue := ok_s ok true
  refine ⟨_, rfl, _, _, _, rfl, hH.at 0 rfl, rfl, _, rfl, d, t, ar, de, m, B, _, true, rfl, ok, hH, fun p H1 hH => ?_⟩
  refine ⟨_, rfl, _, _, _, _, _, rfl, .ty _, .base (.lst (hH.at 0 rfl)), kit_ty kit_ll, _, rfl, iteF ?_⟩
  refine ⟨_, rfl, _, rfl, _, _, _, _, rfl, rfl, sqL_of (hH.at 8 rfl), rfl, _, rfl, _, _, _, _, rfl, rfl, sqL_of (hH.at 9 rfl), rfl, _, rfl, _, _, _, _, rfl, rfl, sqL_of (hH.at 8 rfl), rfl, _, rfl, _, _, _, _, rfl, rfl, sqL_of (hH.at 10 rfl), rfl, _, _, _, _, rfl, rfl, hH.at 12 rfl, hH.at 14 rfl, ?_, fun q hq => ?_⟩
  · rw [List.length_map, List.length_map]
    exact sz_le (Nat.le_trans ltrue (by decide))
  rw [isL_cat]
  have hH := hH.add (o := isL (m.s1 ++ m.f1)) hq
  refine ⟨_, _, dp_ints (sqL_of (hH.at 1 rfl)), dp_ints (sqL_of (hH.at 0 rfl)), shaped_ints _, shaped_ints _, _, rfl, ?_⟩
  rw [eqD_ints, decide_eq_true (show m.s true ++ m.f true = m.s1 ++ m.f1 from rfl)]
  refine iteF ?_
  refine ⟨_, rfl, .inl ⟨rfl, _, sqL_of (hH.at 1 rfl)⟩, _, _, _, rfl, rfl, hH.at 1 rfl, ?_, ?_⟩
  · rw [List.length_map, List.length_append]
    exact sz_lt (Nat.le_trans ltrue (by decide))
  have hH := hH.put 1 (o := .lst ((m.s true ++ m.f true).map V.int ++ [.int 1])) rfl
  generalize hX : upd _ _ _ = Hn; replace hH := Eq.mp (congrArg (Wd _ _) hX) hH; clear hX
  replace hH := hH.drop0.drop0
  refine ⟨_, rfl, _, _, _, rfl, hH.at 0 rfl, rfl, d, t, ar, de, m, B, _, rfl, hH, ?_⟩
  refine ⟨_, rfl, _, _, _, _, rfl, rfl, sqL_of (hH.at 7 rfl), rfl, _, _, _, _, rfl, rfl, sqL_of (hH.at 9 rfl), rfl, _, _, rfl, .inl (sqL_of (hH.at 12 rfl)), _, rfl, _, _, _, _, rfl, rfl, sqL_of (hH.at 7 rfl), rfl, _, _, _, _, rfl, rfl, sqL_of (hH.at 9 rfl), rfl, _, _, rfl, .inl (sqL_of (hH.at 13 rfl)), _, _, rfl, rfl, rfl, _, rfl, ?_⟩
  rw [List.length_map, List.length_map, decide_eq_true rfl]
  refine iteF ?_
  refine ⟨_, rfl, _, _, _, rfl, hH.at 0 rfl, rfl, d, t, ar, de, m, B, _, rfl, hH, ?_⟩
  refine ⟨_, rfl, _, rfl, iteF ?_⟩
  refine ⟨_, rfl, _, _, _, rfl, hH.at 0 rfl, rfl, d, t, ar, de, m, B, _, rfl, hR, hH, ?_⟩
  refine ⟨_, rfl, _, _, _, _, rfl, rfl, sqL_of (hH.at 7 rfl), rfl, rfl, _, _, rfl, _, rfl, ?_⟩
  have e1 : (!decide (V.int m.left = V.int 0)) = decide (m.left ≠ 0) := by
    by_cases z : m.left = 0
    · simp [z]
    · simp [z]
  rw [e1, decide_eq_true rfl]
  refine iteT ?_
  refine ⟨_, rfl, _, _, _, rfl, hH.at 0 rfl, rfl, d, t, ar, de, m, B, _, rfl, hH, ?_⟩
  refine ⟨_, rfl, _, _, _, _, rfl, rfl, sqL_of (hH.at 7 rfl), rfl, rfl, ?_⟩
  rw [decide_eq_true rfl]
  exact k _ hH
theorem ok__law_deed {f : Addr} {fd : FuncData} (F : Fun K "_law_deed" "_law_deed" s__law_deed f fd) (T : Txt K mg C_HushError C_OutOfRange C_OutOfOrder C_PowerLost C_Disk) (GM_Disk_arm : GM P w K mg base C_Disk "arm" 2 ["self", "deeds"] (spArm C_Disk)) (GM_Disk_crash : GM P w K mg base C_Disk "crash" 1 ["self", "kept", "torn"] (spCrash C_Disk)) (G__law_crash : GF P w K mg base "_law_crash" 1 ["_law_model", "_law_kept", "_law_torn"] spMCr) (G__law_row : GF P w K mg base "_law_row" 1 ["_law_cell_here", "_law_count"] spRow) (G__law_expected : GF P w K mg base "_law_expected" 1 ["_law_model", "_law_which", "_law_bank", "_law_given"] spExp) (G__law_word : GF P w K mg base "_law_word" 4 ["_law_disk", "_law_which", "_law_bank", "_law_given"] (spWord C_Disk)) :
    FnOk P w K mg base (L2.CX P w) 5 f fd ["_law_disk", "_law_model", "_law_cell_here"] (spDeed C_Disk) := by
  refine F.okX sc__law_deed (fun vs H Q E h => ?_) (fun cdv A outer s H vs Q E hr h => ⟨_, (pss_cons (ps_set (i := 3) sc__law_deed.nd rfl (Or.inl rfl) (pe_op op_mod (pe_callTy call_intK (by rfl) T.n_int (by decide +kernel) (pa_cons (pv 2) pa_nil)) pe_int))
      (pss_cons (ps_set (i := 4) sc__law_deed.nd rfl (Or.inl rfl) (pe_op op_and (pe_callTy call_intK (by rfl) T.n_int (by decide +kernel) (pa_cons (pe_op op_fdiv (pv 2) pe_int) pa_nil)) pe_int))
      (pss_cons (ps_if (pt_cmpR op_eq (pv 3) pe_int (nomark _))
      (pss_cons (ps_expr (pe_methG (pv 0) T.c_Disk GM_Disk_arm (hr.mono (by decide)) (takes_of rfl rfl rfl rfl) (pa_cons (pe_op op_mod (pe_callTy call_intK (by rfl) T.n_int (by decide +kernel) (pa_cons (pe_op op_fdiv (pv 2) pe_int) pa_nil)) pe_int) pa_nil)))
      (pss_cons (ps_if (pt_cmpR op_ne (pe_ix (ix_listK (K := K)) (pv 1) pe_int (fun _ _ => rfl)) pe_int (nomark _))
      (pss_one (ps_asg (pe_op op_mod (pe_callTy call_intK (by rfl) T.n_int (by decide +kernel) (pa_cons (pe_op op_fdiv (pv 2) pe_int) pa_nil)) pe_int) (pg_sub (pv 1) pe_int set_list)))
      pss_nil)
      (pss_one (ps_ret pe_bl))))
      pss_nil)
      (pss_cons (ps_if (pt_cmpR op_eq (pv 3) pe_int (nomark _))
      (pss_cons (ps_expr (pe_methG (pv 0) T.c_Disk GM_Disk_crash (hr.mono (by decide)) (takes_of rfl rfl rfl rfl) (pa_cons (pe_op op_and (pe_callTy call_intK (by rfl) T.n_int (by decide +kernel) (pa_cons (pe_op op_fdiv (pv 2) pe_int) pa_nil)) pe_int) (pa_cons (pe_op op_and (pe_callTy call_intK (by rfl) T.n_int (by decide +kernel) (pa_cons (pe_op op_fdiv (pv 2) pe_int) pa_nil)) pe_int) pa_nil))))
      (pss_cons (ps_expr (pe_callG G__law_crash (hr.mono (by decide)) (takes_of rfl rfl rfl rfl) (pa_cons (pv 1) (pa_cons (pe_op op_and (pe_callTy call_intK (by rfl) T.n_int (by decide +kernel) (pa_cons (pe_op op_fdiv (pv 2) pe_int) pa_nil)) pe_int) (pa_cons (pe_op op_and (pe_callTy call_intK (by rfl) T.n_int (by decide +kernel) (pa_cons (pe_op op_fdiv (pv 2) pe_int) pa_nil)) pe_int) pa_nil)))))
      (pss_one (ps_ret pe_bl))))
      pss_nil)
      (pss_cons (ps_if (pt_cmpR op_lt (pv 3) pe_int (nomark _))
      (pss_cons (ps_set (i := 5) sc__law_deed.nd rfl (Or.inl rfl) (pe_callG G__law_row (hr.mono (by decide)) (takes_of rfl rfl rfl rfl) (pa_cons (pe_op op_fdiv (pv 2) pe_int) (pa_cons (pe_op op_mod (pe_callTy call_intK (by rfl) T.n_int (by decide +kernel) (pa_cons (pe_op op_fdiv (pv 2) pe_int) pa_nil)) pe_int) pa_nil))))
      (pss_cons (ps_set (i := 6) sc__law_deed.nd rfl (Or.inl rfl) (pe_callTy (call_listK (K := K)) (by rfl) T.n_list (by decide +kernel) (pa_cons (pv 5) pa_nil)))
      (pss_cons (ps_set (i := 7) sc__law_deed.nd rfl (Or.inl rfl) (pe_callG G__law_expected (hr.mono (by decide)) (takes_of rfl rfl rfl rfl) (pa_cons (pv 1) (pa_cons pe_int (pa_cons (pv 4) (pa_cons (pv 5) pa_nil))))))
      (pss_cons (ps_set (i := 8) sc__law_deed.nd rfl (Or.inl rfl) (pe_callG G__law_word (hr.mono (by decide)) (takes_of rfl rfl rfl rfl) (pa_cons (pv 0) (pa_cons pe_int (pa_cons (pv 4) (pa_cons (pv 6) pa_nil))))))
      (pss_cons (ps_expr (pe_bmK (K := K) PySem.F.plainAttrs_list PySem.F.slot_list_append PySem.F.type_list_append mt_append (pv 6) (pa_cons pe_int pa_nil)))
      (pss_one (ps_ret (pe_and (pe_cmpR op_eq (pv 8) (pv 7) (nomark _)) (pe_one (pe_cmpR (op_eqDK (K := K) (by exact hr.units)) (pv 6) (pe_op op_cat (pv 5) (pe_lst (pa_cons pe_int pa_nil))) (nomark _)))))))))))
      pss_nil)
      (pss_cons (ps_if (pt_cmpR op_lt (pv 3) pe_int (nomark _))
      (pss_one (ps_ret (pe_cmpR op_eq (pe_callG G__law_word (hr.mono (by decide)) (takes_of rfl rfl rfl rfl) (pa_cons (pv 0) (pa_cons pe_int (pa_cons (pv 4) (pa_cons pe_non pa_nil))))) (pe_callG G__law_expected (hr.mono (by decide)) (takes_of rfl rfl rfl rfl) (pa_cons (pv 1) (pa_cons pe_int (pa_cons (pv 4) (pa_cons pe_non pa_nil))))) (nomark _))))
      pss_nil)
      (pss_cons (ps_set (i := 9) sc__law_deed.nd rfl (Or.inl rfl) (pe_op op_sub (pe_op op_add (pe_callB (call_lenK (K := K)) (by rfl) T.n_len (by decide +kernel) (pa_cons (pe_ix (ix_listK (K := K)) (pe_ix (ix_listK (K := K)) (pv 1) pe_int (fun _ _ => rfl)) (pv 4) (fun _ _ => rfl)) pa_nil)) pe_int) (pe_op op_mod (pe_callTy call_intK (by rfl) T.n_int (by decide +kernel) (pa_cons (pe_op op_fdiv (pv 2) pe_int) pa_nil)) pe_int)))
      (pss_one (ps_ret (pe_cmpR op_eq (pe_callG G__law_word (hr.mono (by decide)) (takes_of rfl rfl rfl rfl) (pa_cons (pv 0) (pa_cons pe_int (pa_cons (pv 4) (pa_cons (pv 9) pa_nil))))) (pe_callG G__law_expected (hr.mono (by decide)) (takes_of rfl rfl rfl rfl) (pa_cons (pv 1) (pa_cons pe_int (pa_cons (pv 4) (pa_cons (pv 9) pa_nil))))) (nomark _))))))))))), ?_⟩)
  · obtain ⟨d, a, t, t2, ar, de, m, B, M, c, rfl, h0, ok, hR, hH, kQ⟩ := h <;> rfl
  obtain ⟨d, a, t, t2, ar, de, m, B, M, c, rfl, h0, ok, hR, hH, kQ⟩ := h
  have n8 : 0 ≤ c / 8 := Int.ediv_nonneg h0 (by decide)
  have n16 : 0 ≤ c / 16 := Int.ediv_nonneg h0 (by decide)
  have n256 : 0 ≤ c / 256 := Int.ediv_nonneg h0 (by decide)
  obtain ⟨b, hb⟩ : ∃ b, Builtin.bitAnd (c / 8) 1 = bi b := by
    rw [band1 n8]
    rcases Int.emod_two_eq (c / 8) with e | e
    · exact ⟨false, e⟩
    · exact ⟨true, e⟩
  refine ⟨_, rfl, .inl ⟨_, rfl, _, _, rfl, rfl, (by show (0 : Int) < _; decide), ?_⟩⟩
  obtain ⟨w, hw⟩ : ∃ w, w = c % 8 := ⟨_, rfl⟩
  dsimp only
  rw [← hw]
  refine ⟨_, rfl, _, _, rfl, rfl, ⟨by decide, by decide⟩, .inl ⟨_, rfl, _, _, rfl, rfl, ?_⟩⟩
  dsimp only
  rw [hb]
  refine ⟨_, rfl, rfl, _, rfl, ?_⟩
  refine if_iff (p := w = 7) (by simp) (fun c7 => ?_) (fun c7 => ?_)
  · refine ⟨_, rfl, _, _, _, rfl, hH.at 0 rfl, rfl, _, rfl, _, _, rfl, rfl, ⟨by decide, by decide⟩, .inl ⟨_, rfl, _, _, rfl, rfl, (by show (0 : Int) < _; decide), ?_⟩⟩
    have hn : 0 ≤ c / 16 % 7 := Int.emod_nonneg _ (by decide)
    refine ⟨d, t, ar, de, m, B, _, _, rfl, hn, hR, hH, fun ar' de' H1 hR1 hH => ?_⟩
    refine ⟨_, rfl, _, _, _, _, rfl, rfl, sqL_of (hH.at 7 rfl), rfl, rfl, _, rfl, ?_⟩
    refine if_join (fun σ' H' => ∃ vs, σ' = vs ∧ Wd B (DL C_Disk d t ar' de' (m.arm (c / 16 % 7)) ++ (ML a t2 (m.arm (c / 16 % 7)) ++ M)) H') (p := m.left ≠ 0) (by by_cases z : m.left = 0 <;> simp [z]) (fun cl N kk => ?_) (fun cl N kk => kk _ _ ⟨_, rfl, ?_⟩) (fun σ' H' hh => ?_)
    · refine ⟨_, rfl, _, _, rfl, rfl, ⟨by decide, by decide⟩, .inl ⟨_, rfl, _, _, rfl, rfl, (by show (0 : Int) < _; decide), _, rfl, _, _, _, _, rfl, rfl, hH.at 7 rfl, rfl, kk _ _ ⟨_, rfl, ?_⟩⟩⟩
      have e : m.arm (c / 16 % 7) = { m with left := c / 16 % 7 } := by unfold AM.arm; rw [if_neg cl]
      have hH := hH.put 7 (o := .lst [.ref t2.aS, .ref t2.aF, .int (c / 16 % 7), .int m.cr]) rfl
      rw [e] at hH ⊢
      exact hH
    · have e : m.arm (c / 16 % 7) = m := by unfold AM.arm; rw [if_pos (by omega)]
      rw [e] at hH ⊢
      exact hH
    obtain ⟨vs, rfl, hH⟩ := hh
    exact kQ t t2 ar' de' _ _ (ok_arm ok hn) hR1 hH
  refine ⟨_, rfl, rfl, _, rfl, ?_⟩
  refine if_iff (p := w = 6) (by simp) (fun c6 => ?_) (fun c6 => ?_)
  · have k1 : 0 ≤ Builtin.bitAnd (c / 16) 15 := by rw [band15 n16]; exact Int.emod_nonneg _ (by decide)
    have k2 : 0 ≤ Builtin.bitAnd (c / 256) 15 := by rw [band15 n256]; exact Int.emod_nonneg _ (by decide)
    refine ⟨_, rfl, _, _, _, rfl, hH.at 0 rfl, rfl, _, rfl, _, _, rfl, rfl, ⟨by decide, by decide⟩, .inl ⟨_, rfl, _, _, rfl, rfl, _, rfl, _, _, rfl, rfl, ⟨by decide, by decide⟩, .inl ⟨_, rfl, _, _, rfl, rfl, ?_⟩⟩⟩
    refine ⟨d, t, ar, de, m, B, _, _, _, rfl, k1, k2, ok, hR, hH, fun ar' de' t' H1 hR1 hH => ?_⟩
    have hH := Wd.pick (L := [_, _, _, _, _, _, _, _, _, _, _, _, _, _]) (L' := ML a t2 m ++ DL C_Disk d t' ar' de' (m.crash (Builtin.bitAnd (c / 16) 15).toNat (Builtin.bitAnd (c / 256) 15).toNat)) hH [7,8,9,10,11,12,13,0,1,2,3,4,5,6] (by decide) rfl
    refine ⟨_, rfl, _, rfl, _, _, rfl, rfl, ⟨by decide, by decide⟩, .inl ⟨_, rfl, _, _, rfl, rfl, _, rfl, _, _, rfl, rfl, ⟨by decide, by decide⟩, .inl ⟨_, rfl, _, _, rfl, rfl, ?_⟩⟩⟩
    refine ⟨a, t2, m, B, _, _, _, rfl, k1, k2, ok, hH, fun t2' H2 hH => ?_⟩
    refine kQ t' t2' ar' de' _ _ (ok_crash ok _ _) hR1 ?_
    exact Wd.pick (L := [_, _, _, _, _, _, _, _, _, _, _, _, _, _]) (L' := DL C_Disk d t' ar' de' _ ++ ML a t2' _) hH [7,8,9,10,11,12,13,0,1,2,3,4,5,6] (by decide) rfl
  refine ⟨_, rfl, _, _, rfl, rfl, _, rfl, ?_⟩
  refine if_iff (p := w < 3) rfl (fun c3 => ?_) (fun c3 => ?_)
  · refine ⟨_, rfl, _, _, rfl, rfl, ⟨by decide, by decide⟩, _, rfl, _, _, rfl, rfl, ⟨by decide, by decide⟩, .inl ⟨_, rfl, _, _, rfl, rfl, (by show (0 : Int) < _; decide), ?_⟩⟩
    have hl : 0 ≤ c / 16 % 13 ∧ c / 16 % 13 < 13 := ⟨Int.emod_nonneg _ (by decide), Int.emod_lt_of_pos _ (by decide)⟩
    refine ⟨_, _, rfl, hl.1, by omega, fun ys p H1 ly _ hp => ?_⟩
    have hH := hH.pure hp
    have hy : ys.length ≤ 13 := by omega
    refine ⟨_, rfl, _, _, rfl, .inl (sqL_of (hH.at 0 rfl)), fun q hq => ?_⟩
    have hH := hH.add (o := isL ys) hq
    have hH := Wd.pick (L := [_, _, _, _, _, _, _, _, _, _, _, _, _, _, _, _]) (L' := ML a t2 m ++ ((p, isL ys) :: ((q, isL ys) :: DL C_Disk d t ar de m))) hH [9,10,11,12,13,14,15,1,0,2,3,4,5,6,7,8] (by decide) rfl
    refine ⟨_, rfl, _, rfl, _, rfl, a, t2, m, B, b, ok, .inl ⟨p, ys, _, rfl, by omega, hH, fun t2' H1 hH => ?_⟩⟩
    have hH := Wd.pick (L := [_, _, _, _, _, _, _, _, _, _, _, _, _, _, _, _]) (L' := DL C_Disk d t ar de m ++ ((q, isL ys) :: ((p, isL ys) :: ML a t2' (m.write b ys).1))) hH [9,10,11,12,13,14,15,8,7,0,1,2,3,4,5,6] (by decide) rfl
    refine ⟨_, rfl, _, rfl, _, rfl, d, t, ar, de, m, B, b, ok, hR, .inl ⟨q, ys, _, rfl, hH, fun ar' de' t' H1 hR hH => ?_⟩⟩
    have ok' := ok_write ok b ys
    generalize hm : m.write b ys = r at *
    obtain ⟨m', n⟩ := r
    refine ⟨_, rfl, .inl ⟨rfl, _, sqL_of (hH.at 7 rfl)⟩, _, _, _, rfl, rfl, hH.at 7 rfl, ?_, ?_⟩
    · rw [List.length_map]
      exact sz_lt (by omega)
    have hH := hH.put 7 (o := isL (ys ++ [9])) rfl
    rw [isL_app]
    generalize hX : upd _ _ _ = Hn; replace hH := Eq.mp (congrArg (Wd _ _) hX) hH; clear hX
    refine ⟨_, rfl, _, rfl, rfl, _, rfl, ?_⟩
    rw [decide_eq_true rfl]
    refine iteT ?_
    refine ⟨_, rfl, _, rfl, by show 1 ≤ sizeLine; decide, fun r0 hr0 => ?_⟩
    have hH := hH.add (o := isL [9]) hr0
    refine ⟨_, _, _, _, rfl, rfl, hH.at 9 rfl, hH.at 0 rfl, ?_, fun r1 hr1 => ?_⟩
    · rw [List.length_map]
      exact sz_le (by show _ + 1 ≤ _; omega)
    rw [isL_cat]
    have hH := hH.add (o := isL (ys ++ [9])) hr1
    refine ⟨_, _, dp_ints (sqL_of (hH.at 9 rfl)), dp_ints (sqL_of (hH.at 0 rfl)), shaped_ints _, shaped_ints _, ?_⟩
    rw [eqD_ints, decide_eq_true rfl]
    refine kQ t' t2' ar' de' m' _ ok' hR ?_
    exact Wd.pick (L := [_, _, _, _, _, _, _, _, _, _, _, _, _, _, _, _, _, _]) (L' := DL C_Disk d t' ar' de' m' ++ ML a t2' m') hH [2,3,4,5,6,7,8,11,12,13,14,15,16,17] (by decide) rfl
  refine ⟨_, rfl, _, _, rfl, rfl, _, rfl, ?_⟩
  refine if_iff (p := w < 5) rfl (fun c5 => ?_) (fun c5 => ?_)
  · refine ⟨_, rfl, _, rfl, d, t, ar, de, m, B, b, ok, hR, .inr (.inl ⟨_, rfl, hH, fun ar' de' t' H1 hR hH => ?_⟩)⟩
    have hH := Wd.pick (L := [_, _, _, _, _, _, _, _, _, _, _, _, _, _]) (L' := ML a t2 m ++ DL C_Disk d t' ar' de' (m.settle b).1) hH [7,8,9,10,11,12,13,0,1,2,3,4,5,6] (by decide) rfl
    refine ⟨_, rfl, _, rfl, a, t2, m, B, b, ok, .inr (.inl ⟨_, rfl, hH, fun t2' H1 hH => ?_⟩)⟩
    refine ⟨rfl, ?_⟩
    rw [decide_eq_true rfl]
    refine kQ t' t2' ar' de' _ _ (ok_settle ok b) hR ?_
    exact Wd.pick (L := [_, _, _, _, _, _, _, _, _, _, _, _, _, _]) (L' := DL C_Disk d t' ar' de' (m.settle b).1 ++ ML a t2' (m.settle b).1) hH [7,8,9,10,11,12,13,0,1,2,3,4,5,6] (by decide) rfl
  cases b
  · refine ⟨_, rfl, _, _, _, _, rfl, rfl, sqL_of (hH.at 7 rfl), rfl, _, rfl, _, _, _, _, rfl, rfl, sqL_of (hH.at 8 rfl), rfl, _, _, rfl, .inl (sqL_of (hH.at 10 rfl)), _, _, rfl, rfl, _, rfl, _, _, rfl, rfl, ⟨by decide, by decide⟩, .inl ⟨_, rfl, _, _, rfl, rfl, (by show (0 : Int) < _; decide), _, _, rfl, rfl, ?_⟩⟩
    obtain ⟨n, hn⟩ : ∃ n, V.int n = (V.int (((m.s false).map V.int).length + 1 - c / 16 % 9)) := ⟨_, rfl⟩
    have hn' := hn.symm
    refine ⟨_, rfl, _, rfl, _, rfl, d, t, ar, de, m, B, false, ok, hR, .inr (.inr ⟨_, _, rfl, hH, fun ar' de' t' H1 hR hH => ?_⟩)⟩
    have hH := Wd.pick (L := [_, _, _, _, _, _, _, _, _, _, _, _, _, _]) (L' := ML a t2 m ++ DL C_Disk d t' ar' de' (m.cut false _).1) hH [7,8,9,10,11,12,13,0,1,2,3,4,5,6] (by decide) rfl
    refine ⟨_, rfl, _, rfl, _, rfl, a, t2, m, B, false, ok, .inr (.inr ⟨_, _, rfl, hH, fun t2' H1 hH => ?_⟩)⟩
    refine ⟨rfl, ?_⟩
    rw [decide_eq_true rfl]
    refine kQ t' t2' ar' de' _ _ (ok_cut ok false _) hR ?_
    exact Wd.pick (L := [_, _, _, _, _, _, _, _, _, _, _, _, _, _]) (L' := DL C_Disk d t' ar' de' (m.cut false _).1 ++ ML a t2' (m.cut false _).1) hH [7,8,9,10,11,12,13,0,1,2,3,4,5,6] (by decide) rfl
  · refine ⟨_, rfl, _, _, _, _, rfl, rfl, sqL_of (hH.at 7 rfl), rfl, _, rfl, _, _, _, _, rfl, rfl, sqL_of (hH.at 8 rfl), rfl, _, _, rfl, .inl (sqL_of (hH.at 11 rfl)), _, _, rfl, rfl, _, rfl, _, _, rfl, rfl, ⟨by decide, by decide⟩, .inl ⟨_, rfl, _, _, rfl, rfl, (by show (0 : Int) < _; decide), _, _, rfl, rfl, ?_⟩⟩
    obtain ⟨n, hn⟩ : ∃ n, V.int n = (V.int (((m.s true).map V.int).length + 1 - c / 16 % 9)) := ⟨_, rfl⟩
    have hn' := hn.symm
    refine ⟨_, rfl, _, rfl, _, rfl, d, t, ar, de, m, B, true, ok, hR, .inr (.inr ⟨_, _, rfl, hH, fun ar' de' t' H1 hR hH => ?_⟩)⟩
    have hH := Wd.pick (L := [_, _, _, _, _, _, _, _, _, _, _, _, _, _]) (L' := ML a t2 m ++ DL C_Disk d t' ar' de' (m.cut true _).1) hH [7,8,9,10,11,12,13,0,1,2,3,4,5,6] (by decide) rfl
    refine ⟨_, rfl, _, rfl, _, rfl, a, t2, m, B, true, ok, .inr (.inr ⟨_, _, rfl, hH, fun t2' H1 hH => ?_⟩)⟩
    refine ⟨rfl, ?_⟩
    rw [decide_eq_true rfl]
    refine kQ t' t2' ar' de' _ _ (ok_cut ok true _) hR ?_
    exact Wd.pick (L := [_, _, _, _, _, _, _, _, _, _, _, _, _, _]) (L' := DL C_Disk d t' ar' de' (m.cut true _).1 ++ ML a t2' (m.cut true _).1) hH [7,8,9,10,11,12,13,0,1,2,3,4,5,6] (by decide) rfl
theorem ok_law {f : Addr} {fd : FuncData} (F : Fun K "law" "law" s_law f fd) (T : Txt K mg C_HushError C_OutOfRange C_OutOfOrder C_PowerLost C_Disk) (GC_Disk : GC P w K mg base "Disk" C_Disk 1 ["self"] (spInit C_Disk)) (G__law_is_same : GF P w K mg base "_law_is_same" 2 ["_law_disk", "_law_model"] (spSame C_Disk)) (G__law_cell : GF P w K mg base "_law_cell" 1 ["_law_script", "_law_k"] (spCell K)) (GM_Disk_write : GM P w K mg base C_Disk "write" 3 ["self", "bank", "data"] (spWrite C_Disk C_PowerLost C_OutOfOrder C_OutOfRange)) (G__law_deed : GF P w K mg base "_law_deed" 5 ["_law_disk", "_law_model", "_law_cell_here"] (spDeed C_Disk)) :
    FnOk P w K mg base (L2.CX P w) 6 f fd ["_law_script"] (spLaw K) := by
  refine F.okX sc_law (fun vs H Q E h => ?_) (fun cdv A outer s H vs Q E hr h => ⟨_, (pss_cons (ps_set (i := 1) sc_law.nd rfl (Or.inl rfl) (pe_makeG0 GC_Disk (hr.mono (by decide)) (takes_of rfl rfl rfl rfl)))
      (pss_cons (ps_set (i := 2) sc_law.nd rfl (Or.inl rfl) (pe_lst (pa_cons (pe_lst (pa_cons (pe_lst pa_nil) (pa_cons (pe_lst pa_nil) pa_nil))) (pa_cons (pe_lst (pa_cons (pe_lst pa_nil) (pa_cons (pe_lst pa_nil) pa_nil))) (pa_cons (pe_un un_neg pe_int) (pa_cons pe_int pa_nil))))))
      (pss_cons (ps_if (pt_not (pt_val (pe_callG G__law_is_same (hr.mono (by decide)) (takes_of rfl rfl rfl rfl) (pa_cons (pv 1) (pa_cons (pv 2) pa_nil)))))
      (pss_one (ps_ret pe_bl))
      pss_nil)
      (pss_cons (ps_if (pt_cmpR op_eq (pe_op op_mod (pe_callTy call_intK (by rfl) T.n_int (by decide +kernel) (pa_cons (pe_callB call_absK (by rfl) T.n_abs (by decide +kernel) (pa_cons (pe_callG G__law_cell (hr.mono (by decide)) (takes_of rfl rfl rfl rfl) (pa_cons (pv 0) (pa_cons pe_int pa_nil))) pa_nil)) pa_nil)) pe_int) pe_int (nomark _))
      (pss_cons (ps_expr (pe_methG (pv 1) T.c_Disk GM_Disk_write (hr.mono (by decide)) (takes_of rfl rfl rfl rfl) (pa_cons pe_int (pa_cons (pe_op op_rep (pe_lst (pa_cons pe_int pa_nil)) pe_int) pa_nil))))
      (pss_one (ps_asg (pe_op op_rep (pe_lst (pa_cons pe_int pa_nil)) pe_int) (pg_sub (pe_ix (ix_listK (K := K)) (pv 2) pe_int (fun _ _ => rfl)) pe_int set_list))))
      pss_nil)
      (pss_cons (ps_for (passes_of rfl) rfl (pi_range2 (by rfl) T.n_range (pa_cons pe_int (pa_cons (pe_callB (call_minK rfl) (by rfl) T.n_min (by decide +kernel) (pa_cons pe_int (pa_cons (pe_callB (call_lenK (K := K)) (by rfl) T.n_len (by decide +kernel) (pa_cons (pv 0) pa_nil)) pa_nil))) pa_nil))) (pg_name (i := 3) sc_law.nd rfl (Or.inl rfl))
      (pss_one (ps_if (PW.pt (pw_or (pt_not (pt_val (pe_callG G__law_deed (hr.mono (by decide)) (takes_of rfl rfl rfl rfl) (pa_cons (pv 1) (pa_cons (pv 2) (pa_cons (pe_callB call_absK (by rfl) T.n_abs (by decide +kernel) (pa_cons (pe_ix (ix_listK (K := K)) (pv 0) (pv 3) (fun _ _ => rfl)) pa_nil)) pa_nil)))))) (pw_or1 (pt_not (pt_val (pe_callG G__law_is_same (hr.mono (by decide)) (takes_of rfl rfl rfl rfl) (pa_cons (pv 1) (pa_cons (pv 2) pa_nil))))))))
      (pss_one (ps_ret pe_bl))
      pss_nil)))
      (pss_one (ps_ret (pe_callG G__law_is_same (hr.mono (by decide)) (takes_of rfl rfl rfl rfl) (pa_cons (pv 1) (pa_cons (pv 2) pa_nil)))))))))), ?_⟩)
  · obtain ⟨a, ns, rfl, hS, hl, kQ⟩ := h <;> rfl
  obtain ⟨a, ns, rfl, hS, hl, kQ⟩ := h
  intro d dx nd ndx ne
  have hH := (Wd.start H).add (o := .own d) ndx
  have hH := hH.add (p := d) (o := .ins C_Disk dx []) (by rw [upd_ne (Ne.symm ne)]; exact nd)
  refine ⟨d, dx, H, _, rfl, hH, fun t H1 hH => ⟨rfl, ?_⟩⟩
  have z0 : (0 : Nat) ≤ sizeLine := by decide
  refine ⟨z0, fun p1 hp => ?_⟩
  have hH := hH.add (o := isL []) hp
  refine ⟨z0, fun p2 hp => ?_⟩
  have hH := hH.add (o := isL []) hp
  refine ⟨by show 2 ≤ sizeLine; decide, fun p3 hp => ?_⟩
  have hH := hH.add (o := .lst [.ref p1, .ref p2]) hp
  refine ⟨z0, fun p4 hp => ?_⟩
  have hH := hH.add (o := isL []) hp
  refine ⟨z0, fun p5 hp => ?_⟩
  have hH := hH.add (o := isL []) hp
  refine ⟨by show 2 ≤ sizeLine; decide, fun p6 hp => ?_⟩
  have hH := hH.add (o := .lst [.ref p4, .ref p5]) hp
  refine ⟨_, rfl, by show 4 ≤ sizeLine; decide, fun p7 hp => ?_⟩
  have hH := hH.add (o := .lst [.ref p3, .ref p6, .int (-1), .int 0]) hp
  obtain ⟨m, hm⟩ : ∃ m : AM, m = ⟨[], [], [], [], -1, 0⟩ := ⟨_, rfl⟩
  have ok : m.ok := by
    rw [hm]
    exact ⟨by show 0 + 0 ≤ 65536; decide, by show 0 + 0 ≤ 65536; decide, by show (-1 : Int) ≤ -1; decide⟩
  have hR : Rel false 0 m := by
    rw [hm]
    rfl
  have hH := Wd.pick (L := [_, _, _, _, _, _, _, _, _, _, _, _, _, _]) (L' := DL C_Disk d t false 0 m ++ ML p7 ⟨0, p3, p6, p1, p2, p4, p5⟩ m) hH [7,8,9,10,11,12,13,0,4,1,6,5,3,2] (by decide) (by rw [hm]; rfl)
  generalize (⟨0, p3, p6, p1, p2, p4, p5⟩ : DT) = t2 at hH
  generalize hX : upd _ _ _ = Hn; replace hH := Eq.mp (congrArg (Wd _ _) hX) hH; clear hX
  refine ⟨_, rfl, _, rfl, d, p7, t, t2, false, 0, m, H, _, rfl, ok, hR, hH, fun H2 hH => ?_⟩
  refine ⟨_, rfl, iteF ?_⟩
  refine ⟨_, rfl, a, ns, 0, rfl, hH.seq hS, Int.le_refl 0, ?_⟩
  refine ⟨_, rfl, .inl ⟨_, rfl, _, _, rfl, rfl, (by show (0 : Int) < _; decide), rfl, _, rfl, ?_⟩⟩
  refine if_join (fun σ' H' => ∃ t t2 ar de m, σ' = L2.start ["_law_script", "_law_disk", "_law_model", "_law_k"] [.ref a, .ref d, .ref p7] ∧ AM.ok m ∧ Rel ar de m ∧ Wd H (DL C_Disk d t ar de m ++ (ML p7 t2 m ++ _)) H') (p := (if cell ns 0 < 0 then -cell ns 0 else cell ns 0) % 5 = 1) (by simp) (fun c N kk => ?_) (fun c N kk => kk _ _ ⟨t, t2, false, 0, m, rfl, ok, hR, hH⟩) (fun σ' H' hh => ?_)
  · obtain ⟨xs, hx⟩ : ∃ xs : List Int, xs = List.replicate 65530 7 := ⟨_, rfl⟩
    have hx2 : (List.replicate (65530 : Int).toNat [V.int 7]).flatten = xs.map V.int := by rw [rep_int, hx]; rfl
    have hxl : xs.length = 65530 := by rw [hx, List.length_replicate]
    clear hx
    refine ⟨_, rfl, _, _, _, rfl, hH.at 0 rfl, rfl, by show 1 ≤ sizeLine; decide, fun q0 hq => ?_⟩
    have hH := hH.add (o := .lst [.int 7]) hq
    refine ⟨_, _, _, rfl, rfl, hH.at 0 rfl, by decide, by decide, by show 1 * 65530 ≤ _; decide, fun q hq => ?_⟩
    rw [hx2]
    have hH := hH.add (o := isL xs) hq
    have hH := Wd.pick (L := [_, _, _, _, _, _, _, _, _, _, _, _, _, _, _, _]) (L' := DL C_Disk d t false 0 m ++ ((q, isL xs) :: ML p7 t2 m)) hH [2,3,4,5,6,7,8,0,9,10,11,12,13,14,15] (by decide) rfl
    refine ⟨d, t, false, 0, m, H, _, false, q, xs, rfl, ok, hR, hH, fun ar' de' t' H' hR' hH => ?_⟩
    have c0 : ¬ m.left = 0 := by rw [hm]; decide
    have c1 : ¬ (m.use.f (!false)).length > 0 := by rw [hm]; decide
    have c2 : ¬ (m.use.s false).length + (m.use.f false).length + xs.length > 65536 := by rw [hm, hxl]; decide
    have e : m.write false xs = (m.setF false xs, 0) := by
      unfold AM.write
      rw [if_neg c0, if_neg c1, if_neg c2, hm]
      rfl
    have ok' := ok_write ok false xs
    rw [e] at hR' hH ok' ⊢
    refine ⟨by show 1 ≤ sizeLine; decide, fun q0 hq => ?_⟩
    have hH := hH.add (o := .lst [.int 7]) hq
    refine ⟨_, _, _, rfl, rfl, hH.at 0 rfl, by decide, by decide, by show 1 * 65530 ≤ _; decide, fun q hq => ?_⟩
    rw [hx2]
    have hH := hH.add (o := isL xs) hq
    refine ⟨_, rfl, _, _, _, _, rfl, rfl, sqL_of (hH.at 10 rfl), rfl, _, _, _, _, rfl, rfl, hH.at 12 rfl, rfl, ?_⟩
    have hH := hH.put 12 (o := .lst [.ref q, .ref t2.f1]) rfl
    refine kk _ _ ⟨t', { t2 with f0 := q }, ar', de', m.setF false xs, rfl, ok', hR', ?_⟩
    exact Wd.pick (L := [_, _, _, _, _, _, _, _, _, _, _, _, _, _, _, _, _]) (L' := DL C_Disk d t' ar' de' (m.setF false xs) ++ ML p7 { t2 with f0 := q } (m.setF false xs)) hH [2,3,4,5,6,7,8,10,11,12,13,14,0,16] (by decide) rfl
  obtain ⟨t, t2, ar, de, m, rfl, ok, hR, hH⟩ := hh
  refine ⟨_, rfl, _, _, rfl, .inl (hH.seq hS), _, _, rfl, ?_⟩
  obtain ⟨n, hn⟩ : ∃ n : Int, n = (if ((ns.map V.int).length : Int) < 31 then ((ns.map V.int).length : Int) else 31) := ⟨_, rfl⟩
  have hn1 : n ≤ 31 ∧ n ≤ ns.length ∧ 0 ≤ n := by rw [List.length_map] at hn; split at hn <;> omega
  rw [← hn]
  refine ⟨_, _, rfl, ⟨by decide, by decide, by omega, by omega⟩, for_range (lo := 1) (n := (n - 1).toNat) (fun i σ H' => ∃ v t t2 ar de m, σ = [some (.ref a), some (.ref d), some (.ref p7), v] ∧ AM.ok m ∧ Rel ar de m ∧ Wd H (DL C_Disk d t ar de m ++ (ML p7 t2 m ++ _)) H')
    ⟨none, t, t2, ar, de, m, rfl, ok, hR, hH⟩ ?_ ?_⟩
  · rintro i σ H' hi ⟨v, t, t2, ar, de, m, rfl, ok, hR, hH⟩
    have hi' : 1 + i < ns.length := by omega
    have e1 : atI (ns.map V.int) (1 + (i : Int)) = some (.int ns[1 + i]) := at_of (j := 1 + i) (by omega) (by rw [List.getElem?_map, List.getElem?_eq_getElem hi']; rfl)
    refine ⟨_, rfl, _, rfl, _, rfl, _, rfl, _, _, _, _, rfl, rfl, hH.seq hS, e1, _, rfl, ?_⟩
    refine ⟨d, p7, t, t2, ar, de, m, H, _, _, rfl, ab_nn _, ok, hR, hH, fun t' t2' ar' de' m' H2 ok hR hH => ?_⟩
    refine ⟨_, rfl, iteF ?_⟩
    refine ⟨_, rfl, _, rfl, d, p7, t', t2', ar', de', m', H, _, rfl, ok, hR, hH, fun H2 hH => ?_⟩
    refine ⟨_, rfl, iteF ?_⟩
    exact ⟨_, t', t2', ar', de', m', rfl, ok, hR, hH⟩
  · rintro σ H' ⟨v, t, t2, ar, de, m, rfl, ok, hR, hH⟩
    refine ⟨_, rfl, _, rfl, d, p7, t, t2, ar, de, m, H, _, rfl, ok, hR, hH, fun H2 hH => ?_⟩
    exact kQ H2
end
theorem all_mk {l : PySem.W.OpenLaw} {w : World} {K : PySem.W.Frag} {h : Heap} {mg : Str → Option Value} {fa : Addr} (X : K.In h) (G : h.Ns mainGlobals mg) (hfa : mg "law" = some (.ref fa))
    {C_HushError C_OutOfRange C_OutOfOrder C_PowerLost C_Disk : Addr}
    {od_Disk___init__ : Option Addr} {an_Disk___init__ : Option Addr} {sl_Disk___init__ : Array (Option Value)} {oc_Disk___init__ kV_Disk___init__ dc_Disk___init__ pm_Disk___init__ cd_Disk___init__ ct_Disk___init__ : Value} {f_Disk___init__ : Addr} {od_Disk_has_power : Option Addr} {an_Disk_has_power : Option Addr} {sl_Disk_has_power : Array (Option Value)} {oc_Disk_has_power kV_Disk_has_power dc_Disk_has_power pm_Disk_has_power cd_Disk_has_power ct_Disk_has_power : Value} {f_Disk_has_power : Addr} {od_Disk_use_power : Option Addr} {an_Disk_use_power : Option Addr} {sl_Disk_use_power : Array (Option Value)} {oc_Disk_use_power kV_Disk_use_power dc_Disk_use_power pm_Disk_use_power cd_Disk_use_power ct_Disk_use_power : Value} {f_Disk_use_power : Addr} {od_Disk_write : Option Addr} {an_Disk_write : Option Addr} {sl_Disk_write : Array (Option Value)} {oc_Disk_write kV_Disk_write dc_Disk_write pm_Disk_write cd_Disk_write ct_Disk_write : Value} {f_Disk_write : Addr} {od_Disk_settle : Option Addr} {an_Disk_settle : Option Addr} {sl_Disk_settle : Array (Option Value)} {oc_Disk_settle kV_Disk_settle dc_Disk_settle pm_Disk_settle cd_Disk_settle ct_Disk_settle : Value} {f_Disk_settle : Addr} {od_Disk_pending : Option Addr} {an_Disk_pending : Option Addr} {sl_Disk_pending : Array (Option Value)} {oc_Disk_pending kV_Disk_pending dc_Disk_pending pm_Disk_pending cd_Disk_pending ct_Disk_pending : Value} {f_Disk_pending : Addr} {od_Disk_cut : Option Addr} {an_Disk_cut : Option Addr} {sl_Disk_cut : Array (Option Value)} {oc_Disk_cut kV_Disk_cut dc_Disk_cut pm_Disk_cut cd_Disk_cut ct_Disk_cut : Value} {f_Disk_cut : Addr} {od_Disk_read : Option Addr} {an_Disk_read : Option Addr} {sl_Disk_read : Array (Option Value)} {oc_Disk_read kV_Disk_read dc_Disk_read pm_Disk_read cd_Disk_read ct_Disk_read : Value} {f_Disk_read : Addr} {od_Disk_arm : Option Addr} {an_Disk_arm : Option Addr} {sl_Disk_arm : Array (Option Value)} {oc_Disk_arm kV_Disk_arm dc_Disk_arm pm_Disk_arm cd_Disk_arm ct_Disk_arm : Value} {f_Disk_arm : Addr} {od_Disk_crashes : Option Addr} {an_Disk_crashes : Option Addr} {sl_Disk_crashes : Array (Option Value)} {oc_Disk_crashes kV_Disk_crashes dc_Disk_crashes pm_Disk_crashes cd_Disk_crashes ct_Disk_crashes : Value} {f_Disk_crashes : Addr} {od_Disk_crash : Option Addr} {an_Disk_crash : Option Addr} {sl_Disk_crash : Array (Option Value)} {oc_Disk_crash kV_Disk_crash dc_Disk_crash pm_Disk_crash cd_Disk_crash ct_Disk_crash : Value} {f_Disk_crash : Addr} {od__law_cell : Option Addr} {an__law_cell : Option Addr} {sl__law_cell : Array (Option Value)} {oc__law_cell kV__law_cell dc__law_cell pm__law_cell cd__law_cell ct__law_cell : Value} {f__law_cell : Addr} {od__law_row : Option Addr} {an__law_row : Option Addr} {sl__law_row : Array (Option Value)} {oc__law_row kV__law_row dc__law_row pm__law_row cd__law_row ct__law_row : Value} {f__law_row : Addr} {od__law_is_integer : Option Addr} {an__law_is_integer : Option Addr} {sl__law_is_integer : Array (Option Value)} {oc__law_is_integer kV__law_is_integer dc__law_is_integer pm__law_is_integer cd__law_is_integer ct__law_is_integer : Value} {f__law_is_integer : Addr} {od__law_says : Option Addr} {an__law_says : Option Addr} {sl__law_says : Array (Option Value)} {oc__law_says kV__law_says dc__law_says pm__law_says cd__law_says ct__law_says : Value} {f__law_says : Addr} {od__law_word : Option Addr} {an__law_word : Option Addr} {sl__law_word : Array (Option Value)} {oc__law_word kV__law_word dc__law_word pm__law_word cd__law_word ct__law_word : Value} {f__law_word : Addr} {od__law_expected : Option Addr} {an__law_expected : Option Addr} {sl__law_expected : Array (Option Value)} {oc__law_expected kV__law_expected dc__law_expected pm__law_expected cd__law_expected ct__law_expected : Value} {f__law_expected : Addr} {od__law_crash : Option Addr} {an__law_crash : Option Addr} {sl__law_crash : Array (Option Value)} {oc__law_crash kV__law_crash dc__law_crash pm__law_crash cd__law_crash ct__law_crash : Value} {f__law_crash : Addr} {od__law_is_same : Option Addr} {an__law_is_same : Option Addr} {sl__law_is_same : Array (Option Value)} {oc__law_is_same kV__law_is_same dc__law_is_same pm__law_is_same cd__law_is_same ct__law_is_same : Value} {f__law_is_same : Addr} {od__law_deed : Option Addr} {an__law_deed : Option Addr} {sl__law_deed : Array (Option Value)} {oc__law_deed kV__law_deed dc__law_deed pm__law_deed cd__law_deed ct__law_deed : Value} {f__law_deed : Addr} {od_law : Option Addr} {an_law : Option Addr} {sl_law : Array (Option Value)} {oc_law kV_law dc_law pm_law cd_law ct_law : Value} {f_law : Addr} {tk_BANK_SIZE : Tok}
    (a_HushError : PySem.W.nsIn K mainGlobals "HushError" = some (some (.ref C_HushError)))
    (a_OutOfRange : PySem.W.nsIn K mainGlobals "OutOfRange" = some (some (.ref C_OutOfRange)))
    (a_OutOfOrder : PySem.W.nsIn K mainGlobals "OutOfOrder" = some (some (.ref C_OutOfOrder)))
    (a_PowerLost : PySem.W.nsIn K mainGlobals "PowerLost" = some (some (.ref C_PowerLost)))
    (a_Disk : PySem.W.nsIn K mainGlobals "Disk" = some (some (.ref C_Disk)))
    (a_Disk___init__ : PySem.W.findIn K (.ref C_Disk) "__init__" = some (some (.ref f_Disk___init__)))
    (i_Disk___init__ : PySem.W.isFn K (.ref f_Disk___init__) = true)
    (l_Disk___init__ : K.lookup f_Disk___init__ = some ⟨oc_Disk___init__, od_Disk___init__, .func (PySem.W.fnOf "__init__" "Disk.__init__" (defArgs s_Disk___init__) (defBody s_Disk___init__) (defScope s_Disk___init__) .none kV_Disk___init__ dc_Disk___init__ pm_Disk___init__ an_Disk___init__ cd_Disk___init__ ct_Disk___init__), sl_Disk___init__⟩)
    (cd2_Disk___init__ : PySem.W.codeIn K cd_Disk___init__ "Disk.__init__" = true)
    (k_Disk___init__ : PySem.W.keepIn K (.ref f_Disk___init__) = true)
    (a_Disk_has_power : PySem.W.findIn K (.ref C_Disk) "has_power" = some (some (.ref f_Disk_has_power)))
    (i_Disk_has_power : PySem.W.isFn K (.ref f_Disk_has_power) = true)
    (l_Disk_has_power : K.lookup f_Disk_has_power = some ⟨oc_Disk_has_power, od_Disk_has_power, .func (PySem.W.fnOf "has_power" "Disk.has_power" (defArgs s_Disk_has_power) (defBody s_Disk_has_power) (defScope s_Disk_has_power) .none kV_Disk_has_power dc_Disk_has_power pm_Disk_has_power an_Disk_has_power cd_Disk_has_power ct_Disk_has_power), sl_Disk_has_power⟩)
    (cd2_Disk_has_power : PySem.W.codeIn K cd_Disk_has_power "Disk.has_power" = true)
    (k_Disk_has_power : PySem.W.keepIn K (.ref f_Disk_has_power) = true)
    (a_Disk_use_power : PySem.W.findIn K (.ref C_Disk) "use_power" = some (some (.ref f_Disk_use_power)))
    (i_Disk_use_power : PySem.W.isFn K (.ref f_Disk_use_power) = true)
    (l_Disk_use_power : K.lookup f_Disk_use_power = some ⟨oc_Disk_use_power, od_Disk_use_power, .func (PySem.W.fnOf "use_power" "Disk.use_power" (defArgs s_Disk_use_power) (defBody s_Disk_use_power) (defScope s_Disk_use_power) .none kV_Disk_use_power dc_Disk_use_power pm_Disk_use_power an_Disk_use_power cd_Disk_use_power ct_Disk_use_power), sl_Disk_use_power⟩)
    (cd2_Disk_use_power : PySem.W.codeIn K cd_Disk_use_power "Disk.use_power" = true)
    (k_Disk_use_power : PySem.W.keepIn K (.ref f_Disk_use_power) = true)
    (a_Disk_write : PySem.W.findIn K (.ref C_Disk) "write" = some (some (.ref f_Disk_write)))
    (i_Disk_write : PySem.W.isFn K (.ref f_Disk_write) = true)
    (l_Disk_write : K.lookup f_Disk_write = some ⟨oc_Disk_write, od_Disk_write, .func (PySem.W.fnOf "write" "Disk.write" (defArgs s_Disk_write) (defBody s_Disk_write) (defScope s_Disk_write) .none kV_Disk_write dc_Disk_write pm_Disk_write an_Disk_write cd_Disk_write ct_Disk_write), sl_Disk_write⟩)
    (cd2_Disk_write : PySem.W.codeIn K cd_Disk_write "Disk.write" = true)
    (k_Disk_write : PySem.W.keepIn K (.ref f_Disk_write) = true)
    (a_Disk_settle : PySem.W.findIn K (.ref C_Disk) "settle" = some (some (.ref f_Disk_settle)))
    (i_Disk_settle : PySem.W.isFn K (.ref f_Disk_settle) = true)
    (l_Disk_settle : K.lookup f_Disk_settle = some ⟨oc_Disk_settle, od_Disk_settle, .func (PySem.W.fnOf "settle" "Disk.settle" (defArgs s_Disk_settle) (defBody s_Disk_settle) (defScope s_Disk_settle) .none kV_Disk_settle dc_Disk_settle pm_Disk_settle an_Disk_settle cd_Disk_settle ct_Disk_settle), sl_Disk_settle⟩)
    (cd2_Disk_settle : PySem.W.codeIn K cd_Disk_settle "Disk.settle" = true)
    (k_Disk_settle : PySem.W.keepIn K (.ref f_Disk_settle) = true)
    (a_Disk_pending : PySem.W.findIn K (.ref C_Disk) "pending" = some (some (.ref f_Disk_pending)))
    (i_Disk_pending : PySem.W.isFn K (.ref f_Disk_pending) = true)
    (l_Disk_pending : K.lookup f_Disk_pending = some ⟨oc_Disk_pending, od_Disk_pending, .func (PySem.W.fnOf "pending" "Disk.pending" (defArgs s_Disk_pending) (defBody s_Disk_pending) (defScope s_Disk_pending) .none kV_Disk_pending dc_Disk_pending pm_Disk_pending an_Disk_pending cd_Disk_pending ct_Disk_pending), sl_Disk_pending⟩)
    (cd2_Disk_pending : PySem.W.codeIn K cd_Disk_pending "Disk.pending" = true)
    (k_Disk_pending : PySem.W.keepIn K (.ref f_Disk_pending) = true)
    (a_Disk_cut : PySem.W.findIn K (.ref C_Disk) "cut" = some (some (.ref f_Disk_cut)))
    (i_Disk_cut : PySem.W.isFn K (.ref f_Disk_cut) = true)
    (l_Disk_cut : K.lookup f_Disk_cut = some ⟨oc_Disk_cut, od_Disk_cut, .func (PySem.W.fnOf "cut" "Disk.cut" (defArgs s_Disk_cut) (defBody s_Disk_cut) (defScope s_Disk_cut) .none kV_Disk_cut dc_Disk_cut pm_Disk_cut an_Disk_cut cd_Disk_cut ct_Disk_cut), sl_Disk_cut⟩)
    (cd2_Disk_cut : PySem.W.codeIn K cd_Disk_cut "Disk.cut" = true)
    (k_Disk_cut : PySem.W.keepIn K (.ref f_Disk_cut) = true)
    (a_Disk_read : PySem.W.findIn K (.ref C_Disk) "read" = some (some (.ref f_Disk_read)))
    (i_Disk_read : PySem.W.isFn K (.ref f_Disk_read) = true)
    (l_Disk_read : K.lookup f_Disk_read = some ⟨oc_Disk_read, od_Disk_read, .func (PySem.W.fnOf "read" "Disk.read" (defArgs s_Disk_read) (defBody s_Disk_read) (defScope s_Disk_read) .none kV_Disk_read dc_Disk_read pm_Disk_read an_Disk_read cd_Disk_read ct_Disk_read), sl_Disk_read⟩)
    (cd2_Disk_read : PySem.W.codeIn K cd_Disk_read "Disk.read" = true)
    (k_Disk_read : PySem.W.keepIn K (.ref f_Disk_read) = true)
    (a_Disk_arm : PySem.W.findIn K (.ref C_Disk) "arm" = some (some (.ref f_Disk_arm)))
    (i_Disk_arm : PySem.W.isFn K (.ref f_Disk_arm) = true)
    (l_Disk_arm : K.lookup f_Disk_arm = some ⟨oc_Disk_arm, od_Disk_arm, .func (PySem.W.fnOf "arm" "Disk.arm" (defArgs s_Disk_arm) (defBody s_Disk_arm) (defScope s_Disk_arm) .none kV_Disk_arm dc_Disk_arm pm_Disk_arm an_Disk_arm cd_Disk_arm ct_Disk_arm), sl_Disk_arm⟩)
    (cd2_Disk_arm : PySem.W.codeIn K cd_Disk_arm "Disk.arm" = true)
    (k_Disk_arm : PySem.W.keepIn K (.ref f_Disk_arm) = true)
    (a_Disk_crashes : PySem.W.findIn K (.ref C_Disk) "crashes" = some (some (.ref f_Disk_crashes)))
    (i_Disk_crashes : PySem.W.isFn K (.ref f_Disk_crashes) = true)
    (l_Disk_crashes : K.lookup f_Disk_crashes = some ⟨oc_Disk_crashes, od_Disk_crashes, .func (PySem.W.fnOf "crashes" "Disk.crashes" (defArgs s_Disk_crashes) (defBody s_Disk_crashes) (defScope s_Disk_crashes) .none kV_Disk_crashes dc_Disk_crashes pm_Disk_crashes an_Disk_crashes cd_Disk_crashes ct_Disk_crashes), sl_Disk_crashes⟩)
    (cd2_Disk_crashes : PySem.W.codeIn K cd_Disk_crashes "Disk.crashes" = true)
    (k_Disk_crashes : PySem.W.keepIn K (.ref f_Disk_crashes) = true)
    (a_Disk_crash : PySem.W.findIn K (.ref C_Disk) "crash" = some (some (.ref f_Disk_crash)))
    (i_Disk_crash : PySem.W.isFn K (.ref f_Disk_crash) = true)
    (l_Disk_crash : K.lookup f_Disk_crash = some ⟨oc_Disk_crash, od_Disk_crash, .func (PySem.W.fnOf "crash" "Disk.crash" (defArgs s_Disk_crash) (defBody s_Disk_crash) (defScope s_Disk_crash) .none kV_Disk_crash dc_Disk_crash pm_Disk_crash an_Disk_crash cd_Disk_crash ct_Disk_crash), sl_Disk_crash⟩)
    (cd2_Disk_crash : PySem.W.codeIn K cd_Disk_crash "Disk.crash" = true)
    (k_Disk_crash : PySem.W.keepIn K (.ref f_Disk_crash) = true)
    (a__law_cell : PySem.W.nsIn K mainGlobals "_law_cell" = some (some (.ref f__law_cell)))
    (l__law_cell : K.lookup f__law_cell = some ⟨oc__law_cell, od__law_cell, .func (PySem.W.fnOf "_law_cell" "_law_cell" (defArgs s__law_cell) (defBody s__law_cell) (defScope s__law_cell) .none kV__law_cell dc__law_cell pm__law_cell an__law_cell cd__law_cell ct__law_cell), sl__law_cell⟩)
    (cd2__law_cell : PySem.W.codeIn K cd__law_cell "_law_cell" = true)
    (k__law_cell : PySem.W.keepIn K (.ref f__law_cell) = true)
    (a__law_row : PySem.W.nsIn K mainGlobals "_law_row" = some (some (.ref f__law_row)))
    (l__law_row : K.lookup f__law_row = some ⟨oc__law_row, od__law_row, .func (PySem.W.fnOf "_law_row" "_law_row" (defArgs s__law_row) (defBody s__law_row) (defScope s__law_row) .none kV__law_row dc__law_row pm__law_row an__law_row cd__law_row ct__law_row), sl__law_row⟩)
    (cd2__law_row : PySem.W.codeIn K cd__law_row "_law_row" = true)
    (k__law_row : PySem.W.keepIn K (.ref f__law_row) = true)
    (a__law_is_integer : PySem.W.nsIn K mainGlobals "_law_is_integer" = some (some (.ref f__law_is_integer)))
    (l__law_is_integer : K.lookup f__law_is_integer = some ⟨oc__law_is_integer, od__law_is_integer, .func (PySem.W.fnOf "_law_is_integer" "_law_is_integer" (defArgs s__law_is_integer) (defBody s__law_is_integer) (defScope s__law_is_integer) .none kV__law_is_integer dc__law_is_integer pm__law_is_integer an__law_is_integer cd__law_is_integer ct__law_is_integer), sl__law_is_integer⟩)
    (cd2__law_is_integer : PySem.W.codeIn K cd__law_is_integer "_law_is_integer" = true)
    (k__law_is_integer : PySem.W.keepIn K (.ref f__law_is_integer) = true)
    (a__law_says : PySem.W.nsIn K mainGlobals "_law_says" = some (some (.ref f__law_says)))
    (l__law_says : K.lookup f__law_says = some ⟨oc__law_says, od__law_says, .func (PySem.W.fnOf "_law_says" "_law_says" (defArgs s__law_says) (defBody s__law_says) (defScope s__law_says) .none kV__law_says dc__law_says pm__law_says an__law_says cd__law_says ct__law_says), sl__law_says⟩)
    (cd2__law_says : PySem.W.codeIn K cd__law_says "_law_says" = true)
    (k__law_says : PySem.W.keepIn K (.ref f__law_says) = true)
    (a__law_word : PySem.W.nsIn K mainGlobals "_law_word" = some (some (.ref f__law_word)))
    (l__law_word : K.lookup f__law_word = some ⟨oc__law_word, od__law_word, .func (PySem.W.fnOf "_law_word" "_law_word" (defArgs s__law_word) (defBody s__law_word) (defScope s__law_word) .none kV__law_word dc__law_word pm__law_word an__law_word cd__law_word ct__law_word), sl__law_word⟩)
    (cd2__law_word : PySem.W.codeIn K cd__law_word "_law_word" = true)
    (k__law_word : PySem.W.keepIn K (.ref f__law_word) = true)
    (a__law_expected : PySem.W.nsIn K mainGlobals "_law_expected" = some (some (.ref f__law_expected)))
    (l__law_expected : K.lookup f__law_expected = some ⟨oc__law_expected, od__law_expected, .func (PySem.W.fnOf "_law_expected" "_law_expected" (defArgs s__law_expected) (defBody s__law_expected) (defScope s__law_expected) .none kV__law_expected dc__law_expected pm__law_expected an__law_expected cd__law_expected ct__law_expected), sl__law_expected⟩)
    (cd2__law_expected : PySem.W.codeIn K cd__law_expected "_law_expected" = true)
    (k__law_expected : PySem.W.keepIn K (.ref f__law_expected) = true)
    (a__law_crash : PySem.W.nsIn K mainGlobals "_law_crash" = some (some (.ref f__law_crash)))
    (l__law_crash : K.lookup f__law_crash = some ⟨oc__law_crash, od__law_crash, .func (PySem.W.fnOf "_law_crash" "_law_crash" (defArgs s__law_crash) (defBody s__law_crash) (defScope s__law_crash) .none kV__law_crash dc__law_crash pm__law_crash an__law_crash cd__law_crash ct__law_crash), sl__law_crash⟩)
    (cd2__law_crash : PySem.W.codeIn K cd__law_crash "_law_crash" = true)
    (k__law_crash : PySem.W.keepIn K (.ref f__law_crash) = true)
    (a__law_is_same : PySem.W.nsIn K mainGlobals "_law_is_same" = some (some (.ref f__law_is_same)))
    (l__law_is_same : K.lookup f__law_is_same = some ⟨oc__law_is_same, od__law_is_same, .func (PySem.W.fnOf "_law_is_same" "_law_is_same" (defArgs s__law_is_same) (defBody s__law_is_same) (defScope s__law_is_same) .none kV__law_is_same dc__law_is_same pm__law_is_same an__law_is_same cd__law_is_same ct__law_is_same), sl__law_is_same⟩)
    (cd2__law_is_same : PySem.W.codeIn K cd__law_is_same "_law_is_same" = true)
    (k__law_is_same : PySem.W.keepIn K (.ref f__law_is_same) = true)
    (a__law_deed : PySem.W.nsIn K mainGlobals "_law_deed" = some (some (.ref f__law_deed)))
    (l__law_deed : K.lookup f__law_deed = some ⟨oc__law_deed, od__law_deed, .func (PySem.W.fnOf "_law_deed" "_law_deed" (defArgs s__law_deed) (defBody s__law_deed) (defScope s__law_deed) .none kV__law_deed dc__law_deed pm__law_deed an__law_deed cd__law_deed ct__law_deed), sl__law_deed⟩)
    (cd2__law_deed : PySem.W.codeIn K cd__law_deed "_law_deed" = true)
    (k__law_deed : PySem.W.keepIn K (.ref f__law_deed) = true)
    (a_law : PySem.W.nsIn K mainGlobals "law" = some (some (.ref f_law)))
    (l_law : K.lookup f_law = some ⟨oc_law, od_law, .func (PySem.W.fnOf "law" "law" (defArgs s_law) (defBody s_law) (defScope s_law) .none kV_law dc_law pm_law an_law cd_law ct_law), sl_law⟩)
    (cd2_law : PySem.W.codeIn K cd_law "law" = true)
    (k_law : PySem.W.keepIn K (.ref f_law) = true)
    (n_abs : PySem.W.nsIn K mainGlobals "abs" = some none)
    (n_bool : PySem.W.nsIn K mainGlobals "bool" = some none)
    (n_int : PySem.W.nsIn K mainGlobals "int" = some none)
    (n_isinstance : PySem.W.nsIn K mainGlobals "isinstance" = some none)
    (n_len : PySem.W.nsIn K mainGlobals "len" = some none)
    (n_list : PySem.W.nsIn K mainGlobals "list" = some none)
    (n_min : PySem.W.nsIn K mainGlobals "min" = some none)
    (n_range : PySem.W.nsIn K mainGlobals "range" = some none)
    (g_BANK_SIZE : PySem.W.nsIn K mainGlobals "BANK_SIZE" = some (some (.int 65536 tk_BANK_SIZE)))
    (pg_Disk : PySem.W.plainGet K C_Disk Str.empty = true)
    (hd_Disk : PySem.W.hasDictIn K C_Disk = true)
    (po_Disk : PySem.W.plainOver K C_Disk = true)
    (sa_Disk : PySem.W.findIn K (.ref C_Disk) "__setattr__" = some (some (.builtin "object.__setattr__")))
    (mk_Disk : PySem.W.makesIn K C_Disk = true)
    (kc_Disk : PySem.W.keepIn K (.ref C_Disk) = true)
    (na_Disk__armed : PySem.W.findIn K (.ref C_Disk) "_armed" = some none)
    (na_Disk__crashes : PySem.W.findIn K (.ref C_Disk) "_crashes" = some none)
    (na_Disk__deeds : PySem.W.findIn K (.ref C_Disk) "_deeds" = some none)
    (na_Disk__fresh : PySem.W.findIn K (.ref C_Disk) "_fresh" = some none)
    (na_Disk__settled : PySem.W.findIn K (.ref C_Disk) "_settled" = some none)
    (x_HushError : PySem.W.excIn K C_HushError [.type "ValueError", .type "Exception", .type "BaseException", .type "object"] "ValueError.__new__" = true)
    (k_HushError : PySem.W.keepIn K (.ref C_HushError) = true)
    (b_HushError : PySem.W.subIn K (.ref C_HushError) (.type "BaseException") = some true)
    (t_HushError : PySem.W.typeIn K (.ref C_HushError) = some (.type "type"))
    (h_HushError : PySem.W.hasDictIn K C_HushError = true)
    (x_OutOfRange : PySem.W.excIn K C_OutOfRange [.type "ValueError", .type "Exception", .type "BaseException", .type "object"] "ValueError.__new__" = true)
    (k_OutOfRange : PySem.W.keepIn K (.ref C_OutOfRange) = true)
    (b_OutOfRange : PySem.W.subIn K (.ref C_OutOfRange) (.type "BaseException") = some true)
    (t_OutOfRange : PySem.W.typeIn K (.ref C_OutOfRange) = some (.type "type"))
    (h_OutOfRange : PySem.W.hasDictIn K C_OutOfRange = true)
    (x_OutOfOrder : PySem.W.excIn K C_OutOfOrder [.type "ValueError", .type "Exception", .type "BaseException", .type "object"] "ValueError.__new__" = true)
    (k_OutOfOrder : PySem.W.keepIn K (.ref C_OutOfOrder) = true)
    (b_OutOfOrder : PySem.W.subIn K (.ref C_OutOfOrder) (.type "BaseException") = some true)
    (t_OutOfOrder : PySem.W.typeIn K (.ref C_OutOfOrder) = some (.type "type"))
    (h_OutOfOrder : PySem.W.hasDictIn K C_OutOfOrder = true)
    (x_PowerLost : PySem.W.excIn K C_PowerLost [.type "ValueError", .type "Exception", .type "BaseException", .type "object"] "ValueError.__new__" = true)
    (k_PowerLost : PySem.W.keepIn K (.ref C_PowerLost) = true)
    (b_PowerLost : PySem.W.subIn K (.ref C_PowerLost) (.type "BaseException") = some true)
    (t_PowerLost : PySem.W.typeIn K (.ref C_PowerLost) = some (.type "type"))
    (h_PowerLost : PySem.W.hasDictIn K C_PowerLost = true)
    (su_PowerLost_HushError : PySem.W.subIn K (.ref C_PowerLost) (.ref C_HushError) = some true)
    (su_OutOfOrder_HushError : PySem.W.subIn K (.ref C_OutOfOrder) (.ref C_HushError) = some true)
    (su_OutOfRange_HushError : PySem.W.subIn K (.ref C_OutOfRange) (.ref C_HushError) = some true)
    (eg_PowerLost : PySem.W.findIn K (.ref C_PowerLost) "__getattribute__" = some (some (.builtin "BaseException.__getattribute__")))
    (ek_PowerLost : PySem.W.findIn K (.ref C_PowerLost) "__getattr__" = some none)
    (ea_PowerLost : PySem.W.findIn K (.ref C_PowerLost) "__class__" = some (some (.builtin "object.__class__")))
    (em_PowerLost : PySem.W.mroIn K C_PowerLost (.type "object") = some true)
    (eg_OutOfOrder : PySem.W.findIn K (.ref C_OutOfOrder) "__getattribute__" = some (some (.builtin "BaseException.__getattribute__")))
    (ek_OutOfOrder : PySem.W.findIn K (.ref C_OutOfOrder) "__getattr__" = some none)
    (ea_OutOfOrder : PySem.W.findIn K (.ref C_OutOfOrder) "__class__" = some (some (.builtin "object.__class__")))
    (em_OutOfOrder : PySem.W.mroIn K C_OutOfOrder (.type "object") = some true)
    (eg_OutOfRange : PySem.W.findIn K (.ref C_OutOfRange) "__getattribute__" = some (some (.builtin "BaseException.__getattribute__")))
    (ek_OutOfRange : PySem.W.findIn K (.ref C_OutOfRange) "__getattr__" = some none)
    (ea_OutOfRange : PySem.W.findIn K (.ref C_OutOfRange) "__class__" = some (some (.builtin "object.__class__")))
    (em_OutOfRange : PySem.W.mroIn K C_OutOfRange (.type "object") = some true)
    (en : PySem.W.specialIn K (.builtin "object.__class__") "__get__" = some (some (.builtin "getset_descriptor.__get__")))
    (et : PySem.W.takesIn K (.builtin "object.__class__") = some true)
    (ki_PowerLost_PowerLost : PySem.W.kitOne K (.ref C_PowerLost) (.ref C_PowerLost) = some true)
    (ki_PowerLost_OutOfOrder : PySem.W.kitOne K (.ref C_PowerLost) (.ref C_OutOfOrder) = some false)
    (ki_PowerLost_OutOfRange : PySem.W.kitOne K (.ref C_PowerLost) (.ref C_OutOfRange) = some false)
    (ki_OutOfOrder_PowerLost : PySem.W.kitOne K (.ref C_OutOfOrder) (.ref C_PowerLost) = some false)
    (ki_OutOfOrder_OutOfOrder : PySem.W.kitOne K (.ref C_OutOfOrder) (.ref C_OutOfOrder) = some true)
    (ki_OutOfOrder_OutOfRange : PySem.W.kitOne K (.ref C_OutOfOrder) (.ref C_OutOfRange) = some false)
    (ki_OutOfRange_PowerLost : PySem.W.kitOne K (.ref C_OutOfRange) (.ref C_PowerLost) = some false)
    (ki_OutOfRange_OutOfOrder : PySem.W.kitOne K (.ref C_OutOfRange) (.ref C_OutOfOrder) = some false)
    (ki_OutOfRange_OutOfRange : PySem.W.kitOne K (.ref C_OutOfRange) (.ref C_OutOfRange) = some true)
    : ∃ fd : FuncData, (∀ (s : Shared) (v : Value), BindsTo s fd ⟨[v], []⟩ [("_law_script", v)]) ∧ ∀ base : Heap, K.In base → base.Ns mainGlobals mg → FnOk l.prog w K mg base (L2.CX l.prog w) 6 fa fd ["_law_script"] (spLaw K) := by
  have e := hfa.symm.trans (PySem.W.mg_of X G a_law)
  cases e
  have T : Txt K mg C_HushError C_OutOfRange C_OutOfOrder C_PowerLost C_Disk := { n_abs := PySem.W.mg_none_of X G n_abs, n_bool := PySem.W.mg_none_of X G n_bool, n_int := PySem.W.mg_none_of X G n_int, n_isinstance := PySem.W.mg_none_of X G n_isinstance, n_len := PySem.W.mg_none_of X G n_len, n_list := PySem.W.mg_none_of X G n_list, n_min := PySem.W.mg_none_of X G n_min, n_range := PySem.W.mg_none_of X G n_range, g_BANK_SIZE := gv_int (PySem.W.mg_of X G g_BANK_SIZE), gc_Disk := PySem.W.mg_of X G a_Disk, c_Disk := ⟨pg_Disk, hd_Disk, po_Disk, sa_Disk⟩, na_Disk__armed := na_Disk__armed, na_Disk__crashes := na_Disk__crashes, na_Disk__deeds := na_Disk__deeds, na_Disk__fresh := na_Disk__fresh, na_Disk__settled := na_Disk__settled, gc_HushError := PySem.W.mg_of X G a_HushError, x_HushError := x_HushError, k_HushError := k_HushError, b_HushError := b_HushError, t_HushError := t_HushError, h_HushError := h_HushError, gc_OutOfRange := PySem.W.mg_of X G a_OutOfRange, x_OutOfRange := x_OutOfRange, k_OutOfRange := k_OutOfRange, b_OutOfRange := b_OutOfRange, t_OutOfRange := t_OutOfRange, h_OutOfRange := h_OutOfRange, gc_OutOfOrder := PySem.W.mg_of X G a_OutOfOrder, x_OutOfOrder := x_OutOfOrder, k_OutOfOrder := k_OutOfOrder, b_OutOfOrder := b_OutOfOrder, t_OutOfOrder := t_OutOfOrder, h_OutOfOrder := h_OutOfOrder, gc_PowerLost := PySem.W.mg_of X G a_PowerLost, x_PowerLost := x_PowerLost, k_PowerLost := k_PowerLost, b_PowerLost := b_PowerLost, t_PowerLost := t_PowerLost, h_PowerLost := h_PowerLost, su_PowerLost_HushError := su_PowerLost_HushError, su_OutOfOrder_HushError := su_OutOfOrder_HushError, su_OutOfRange_HushError := su_OutOfRange_HushError, ec_PowerLost := ⟨eg_PowerLost, ek_PowerLost, b_PowerLost, h_PowerLost, ea_PowerLost, en, et, em_PowerLost⟩, ec_OutOfOrder := ⟨eg_OutOfOrder, ek_OutOfOrder, b_OutOfOrder, h_OutOfOrder, ea_OutOfOrder, en, et, em_OutOfOrder⟩, ec_OutOfRange := ⟨eg_OutOfRange, ek_OutOfRange, b_OutOfRange, h_OutOfRange, ea_OutOfRange, en, et, em_OutOfRange⟩, ki_PowerLost_PowerLost := ki_PowerLost_PowerLost, ki_PowerLost_OutOfOrder := ki_PowerLost_OutOfOrder, ki_PowerLost_OutOfRange := ki_PowerLost_OutOfRange, ki_OutOfOrder_PowerLost := ki_OutOfOrder_PowerLost, ki_OutOfOrder_OutOfOrder := ki_OutOfOrder_OutOfOrder, ki_OutOfOrder_OutOfRange := ki_OutOfOrder_OutOfRange, ki_OutOfRange_PowerLost := ki_OutOfRange_PowerLost, ki_OutOfRange_OutOfOrder := ki_OutOfRange_OutOfOrder, ki_OutOfRange_OutOfRange := ki_OutOfRange_OutOfRange }
  have FL := fun_mk (st := s_law) l_law cd2_law k_law
  refine ⟨PySem.W.fnOf "law" "law" (defArgs s_law) (defBody s_law) (defScope s_law) .none kV_law dc_law pm_law an_law cd_law ct_law, fun s v => .of_eq rfl, fun base _ _ => ?_⟩
  have F_Disk___init__ := fun_mk (st := s_Disk___init__) l_Disk___init__ cd2_Disk___init__ k_Disk___init__
  have B_Disk___init__ := F_Disk___init__.binds (ps := ["self"]) fun _ _ _ _ _ _ us hl => match us, hl with | [_], _ => rfl
  have GC_Disk : GC l.prog w K mg base "Disk" C_Disk 1 ["self"] (spInit C_Disk) := ⟨T.gc_Disk, _, _, ⟨mk_Disk, a_Disk___init__, i_Disk___init__, kc_Disk⟩, B_Disk___init__, ok_Disk___init__ (P := l.prog) (w := w) (base := base) F_Disk___init__ T ⟩
  have F_Disk_read := fun_mk (st := s_Disk_read) l_Disk_read cd2_Disk_read k_Disk_read
  have B_Disk_read := F_Disk_read.binds (ps := ["self", "bank"]) fun _ _ _ _ _ _ us hl => match us, hl with | [_, _], _ => rfl
  have GM_Disk_read : GM l.prog w K mg base C_Disk "read" 1 ["self", "bank"] (spRead C_Disk) := ⟨_, _, ⟨a_Disk_read, i_Disk_read, k_Disk_read⟩, B_Disk_read, ok_Disk_read (P := l.prog) (w := w) (base := base) F_Disk_read T ⟩
  have F_Disk_pending := fun_mk (st := s_Disk_pending) l_Disk_pending cd2_Disk_pending k_Disk_pending
  have B_Disk_pending := F_Disk_pending.binds (ps := ["self"]) fun _ _ _ _ _ _ us hl => match us, hl with | [_], _ => rfl
  have GM_Disk_pending : GM l.prog w K mg base C_Disk "pending" 1 ["self"] (spPend C_Disk) := ⟨_, _, ⟨a_Disk_pending, i_Disk_pending, k_Disk_pending⟩, B_Disk_pending, ok_Disk_pending (P := l.prog) (w := w) (base := base) F_Disk_pending T ⟩
  have F__law_is_integer := fun_mk (st := s__law_is_integer) l__law_is_integer cd2__law_is_integer k__law_is_integer
  have B__law_is_integer := F__law_is_integer.binds (ps := ["_law_actual"]) fun _ _ _ _ _ _ us hl => match us, hl with | [_], _ => rfl
  have G__law_is_integer : GF l.prog w K mg base "_law_is_integer" 1 ["_law_actual"] spIsInt := ⟨_, _, PySem.W.mg_of X G a__law_is_integer, k__law_is_integer, B__law_is_integer, ok__law_is_integer (P := l.prog) (w := w) (base := base) F__law_is_integer T ⟩
  have F__law_says := fun_mk (st := s__law_says) l__law_says cd2__law_says k__law_says
  have B__law_says := F__law_says.binds (ps := ["_law_actual", "_law_expected_here"]) fun _ _ _ _ _ _ us hl => match us, hl with | [_, _], _ => rfl
  have G__law_says : GF l.prog w K mg base "_law_says" 1 ["_law_actual", "_law_expected_here"] spSays := ⟨_, _, PySem.W.mg_of X G a__law_says, k__law_says, B__law_says, ok__law_says (P := l.prog) (w := w) (base := base) F__law_says T ⟩
  have F_Disk_has_power := fun_mk (st := s_Disk_has_power) l_Disk_has_power cd2_Disk_has_power k_Disk_has_power
  have B_Disk_has_power := F_Disk_has_power.binds (ps := ["self"]) fun _ _ _ _ _ _ us hl => match us, hl with | [_], _ => rfl
  have GM_Disk_has_power : GM l.prog w K mg base C_Disk "has_power" 1 ["self"] (spHas C_Disk) := ⟨_, _, ⟨a_Disk_has_power, i_Disk_has_power, k_Disk_has_power⟩, B_Disk_has_power, ok_Disk_has_power (P := l.prog) (w := w) (base := base) F_Disk_has_power T ⟩
  have F_Disk_crashes := fun_mk (st := s_Disk_crashes) l_Disk_crashes cd2_Disk_crashes k_Disk_crashes
  have B_Disk_crashes := F_Disk_crashes.binds (ps := ["self"]) fun _ _ _ _ _ _ us hl => match us, hl with | [_], _ => rfl
  have GM_Disk_crashes : GM l.prog w K mg base C_Disk "crashes" 1 ["self"] (spCrs C_Disk) := ⟨_, _, ⟨a_Disk_crashes, i_Disk_crashes, k_Disk_crashes⟩, B_Disk_crashes, ok_Disk_crashes (P := l.prog) (w := w) (base := base) F_Disk_crashes T ⟩
  have F__law_is_same := fun_mk (st := s__law_is_same) l__law_is_same cd2__law_is_same k__law_is_same
  have B__law_is_same := F__law_is_same.binds (ps := ["_law_disk", "_law_model"]) fun _ _ _ _ _ _ us hl => match us, hl with | [_, _], _ => rfl
  have G__law_is_same : GF l.prog w K mg base "_law_is_same" 2 ["_law_disk", "_law_model"] (spSame C_Disk) := ⟨_, _, PySem.W.mg_of X G a__law_is_same, k__law_is_same, B__law_is_same, ok__law_is_same (P := l.prog) (w := w) (base := base) F__law_is_same T GM_Disk_read GM_Disk_pending G__law_is_integer G__law_says GM_Disk_has_power GM_Disk_crashes⟩
  have F__law_cell := fun_mk (st := s__law_cell) l__law_cell cd2__law_cell k__law_cell
  have B__law_cell := F__law_cell.binds (ps := ["_law_script", "_law_k"]) fun _ _ _ _ _ _ us hl => match us, hl with | [_, _], _ => rfl
  have G__law_cell : GF l.prog w K mg base "_law_cell" 1 ["_law_script", "_law_k"] (spCell K) := ⟨_, _, PySem.W.mg_of X G a__law_cell, k__law_cell, B__law_cell, ok__law_cell (P := l.prog) (w := w) (base := base) F__law_cell T ⟩
  have F_Disk_use_power := fun_mk (st := s_Disk_use_power) l_Disk_use_power cd2_Disk_use_power k_Disk_use_power
  have B_Disk_use_power := F_Disk_use_power.binds (ps := ["self"]) fun _ _ _ _ _ _ us hl => match us, hl with | [_], _ => rfl
  have GM_Disk_use_power : GM l.prog w K mg base C_Disk "use_power" 2 ["self"] (spUse C_Disk C_PowerLost) := ⟨_, _, ⟨a_Disk_use_power, i_Disk_use_power, k_Disk_use_power⟩, B_Disk_use_power, ok_Disk_use_power (P := l.prog) (w := w) (base := base) F_Disk_use_power T GM_Disk_has_power⟩
  have F_Disk_write := fun_mk (st := s_Disk_write) l_Disk_write cd2_Disk_write k_Disk_write
  have B_Disk_write := F_Disk_write.binds (ps := ["self", "bank", "data"]) fun _ _ _ _ _ _ us hl => match us, hl with | [_, _, _], _ => rfl
  have GM_Disk_write : GM l.prog w K mg base C_Disk "write" 3 ["self", "bank", "data"] (spWrite C_Disk C_PowerLost C_OutOfOrder C_OutOfRange) := ⟨_, _, ⟨a_Disk_write, i_Disk_write, k_Disk_write⟩, B_Disk_write, ok_Disk_write (P := l.prog) (w := w) (base := base) F_Disk_write T GM_Disk_use_power⟩
  have F_Disk_arm := fun_mk (st := s_Disk_arm) l_Disk_arm cd2_Disk_arm k_Disk_arm
  have B_Disk_arm := F_Disk_arm.binds (ps := ["self", "deeds"]) fun _ _ _ _ _ _ us hl => match us, hl with | [_, _], _ => rfl
  have GM_Disk_arm : GM l.prog w K mg base C_Disk "arm" 2 ["self", "deeds"] (spArm C_Disk) := ⟨_, _, ⟨a_Disk_arm, i_Disk_arm, k_Disk_arm⟩, B_Disk_arm, ok_Disk_arm (P := l.prog) (w := w) (base := base) F_Disk_arm T GM_Disk_has_power⟩
  have F_Disk_crash := fun_mk (st := s_Disk_crash) l_Disk_crash cd2_Disk_crash k_Disk_crash
  have B_Disk_crash := F_Disk_crash.binds (ps := ["self", "kept", "torn"]) fun _ _ _ _ _ _ us hl => match us, hl with | [_, _, _], _ => rfl
  have GM_Disk_crash : GM l.prog w K mg base C_Disk "crash" 1 ["self", "kept", "torn"] (spCrash C_Disk) := ⟨_, _, ⟨a_Disk_crash, i_Disk_crash, k_Disk_crash⟩, B_Disk_crash, ok_Disk_crash (P := l.prog) (w := w) (base := base) F_Disk_crash T ⟩
  have F__law_crash := fun_mk (st := s__law_crash) l__law_crash cd2__law_crash k__law_crash
  have B__law_crash := F__law_crash.binds (ps := ["_law_model", "_law_kept", "_law_torn"]) fun _ _ _ _ _ _ us hl => match us, hl with | [_, _, _], _ => rfl
  have G__law_crash : GF l.prog w K mg base "_law_crash" 1 ["_law_model", "_law_kept", "_law_torn"] spMCr := ⟨_, _, PySem.W.mg_of X G a__law_crash, k__law_crash, B__law_crash, ok__law_crash (P := l.prog) (w := w) (base := base) F__law_crash T ⟩
  have F__law_row := fun_mk (st := s__law_row) l__law_row cd2__law_row k__law_row
  have B__law_row := F__law_row.binds (ps := ["_law_cell_here", "_law_count"]) fun _ _ _ _ _ _ us hl => match us, hl with | [_, _], _ => rfl
  have G__law_row : GF l.prog w K mg base "_law_row" 1 ["_law_cell_here", "_law_count"] spRow := ⟨_, _, PySem.W.mg_of X G a__law_row, k__law_row, B__law_row, ok__law_row (P := l.prog) (w := w) (base := base) F__law_row T ⟩
  have F__law_expected := fun_mk (st := s__law_expected) l__law_expected cd2__law_expected k__law_expected
  have B__law_expected := F__law_expected.binds (ps := ["_law_model", "_law_which", "_law_bank", "_law_given"]) fun _ _ _ _ _ _ us hl => match us, hl with | [_, _, _, _], _ => rfl
  have G__law_expected : GF l.prog w K mg base "_law_expected" 1 ["_law_model", "_law_which", "_law_bank", "_law_given"] spExp := ⟨_, _, PySem.W.mg_of X G a__law_expected, k__law_expected, B__law_expected, ok__law_expected (P := l.prog) (w := w) (base := base) F__law_expected T ⟩
  have F_Disk_settle := fun_mk (st := s_Disk_settle) l_Disk_settle cd2_Disk_settle k_Disk_settle
  have B_Disk_settle := F_Disk_settle.binds (ps := ["self", "bank"]) fun _ _ _ _ _ _ us hl => match us, hl with | [_, _], _ => rfl
  have GM_Disk_settle : GM l.prog w K mg base C_Disk "settle" 3 ["self", "bank"] (spSettle C_Disk C_PowerLost C_OutOfOrder C_OutOfRange) := ⟨_, _, ⟨a_Disk_settle, i_Disk_settle, k_Disk_settle⟩, B_Disk_settle, ok_Disk_settle (P := l.prog) (w := w) (base := base) F_Disk_settle T GM_Disk_use_power⟩
  have F_Disk_cut := fun_mk (st := s_Disk_cut) l_Disk_cut cd2_Disk_cut k_Disk_cut
  have B_Disk_cut := F_Disk_cut.binds (ps := ["self", "bank", "length"]) fun _ _ _ _ _ _ us hl => match us, hl with | [_, _, _], _ => rfl
  have GM_Disk_cut : GM l.prog w K mg base C_Disk "cut" 3 ["self", "bank", "length"] (spCut C_Disk C_PowerLost C_OutOfOrder C_OutOfRange) := ⟨_, _, ⟨a_Disk_cut, i_Disk_cut, k_Disk_cut⟩, B_Disk_cut, ok_Disk_cut (P := l.prog) (w := w) (base := base) F_Disk_cut T GM_Disk_use_power GM_Disk_pending⟩
  have F__law_word := fun_mk (st := s__law_word) l__law_word cd2__law_word k__law_word
  have B__law_word := F__law_word.binds (ps := ["_law_disk", "_law_which", "_law_bank", "_law_given"]) fun _ _ _ _ _ _ us hl => match us, hl with | [_, _, _, _], _ => rfl
  have G__law_word : GF l.prog w K mg base "_law_word" 4 ["_law_disk", "_law_which", "_law_bank", "_law_given"] (spWord C_Disk) := ⟨_, _, PySem.W.mg_of X G a__law_word, k__law_word, B__law_word, ok__law_word (P := l.prog) (w := w) (base := base) F__law_word T GM_Disk_write GM_Disk_settle GM_Disk_cut⟩
  have F__law_deed := fun_mk (st := s__law_deed) l__law_deed cd2__law_deed k__law_deed
  have B__law_deed := F__law_deed.binds (ps := ["_law_disk", "_law_model", "_law_cell_here"]) fun _ _ _ _ _ _ us hl => match us, hl with | [_, _, _], _ => rfl
  have G__law_deed : GF l.prog w K mg base "_law_deed" 5 ["_law_disk", "_law_model", "_law_cell_here"] (spDeed C_Disk) := ⟨_, _, PySem.W.mg_of X G a__law_deed, k__law_deed, B__law_deed, ok__law_deed (P := l.prog) (w := w) (base := base) F__law_deed T GM_Disk_arm GM_Disk_crash G__law_crash G__law_row G__law_expected G__law_word⟩
  exact ok_law (P := l.prog) (w := w) (base := base) FL T GC_Disk G__law_is_same G__law_cell GM_Disk_write G__law_deed
theorem walk {l : PySem.W.OpenLaw} {q : Program} {loose : List Str} {XP : (Str → Option Value) → Heap → Prop} {YP : World → Heap → Prop} {d : DefRec} {K : Params → PySem.W.Frag} (hn : l.most = some 63) (hdf : d.params.defaults = [])
    (hY : ∀ (w : World) (h : Heap), YP w h → (K w.params).In h)
    (F : ∀ (w : World) (mg : Str → Option Value) (fa : Addr) (h : Heap), (K w.params).In h → h.Ns mainGlobals mg → mg d.name = some (.ref fa) →
      ∃ fd : FuncData, (∀ (s : Shared) (u : Value), BindsTo s fd ⟨[u], []⟩ [("_law_script", u)]) ∧ ∀ base : Heap, (K w.params).In base → base.Ns mainGlobals mg → FnOk l.prog w (K w.params) mg base (L2.CX l.prog w) 6 fa fd ["_law_script"] (spLaw (K w.params))) :
    PySem.W.WalkO q loose XP YP l.row.toRowW d [] (fun f vs => PySem.call f vs) :=
  L2.walk_of (n := 63) (k := 6) (x := "_law_script") (CX := fun w => L2.CX l.prog w) (sp := fun w => spLaw (K w.params)) hn (by decide) hdf ⟨rfl, by decide, by decide⟩ hY F (fun _ _ a ns hl _ hS => ⟨a, ns, rfl, hS, hl, fun _ => rfl⟩)
    fun _ _ _ _ _ z => by obtain ⟨_, _, _, _, _, _, _, _, _, _, _, _, y⟩ := z; exact y
end K58
open PySem PySem.W PyProof.Rows
set_option maxRecDepth 100000 in
set_option maxHeartbeats 0 in
theorem PySem.Challenge.cw_hushlink_k58_disk_by_a_model_holds : PySem.Challenge.rw_hushlink_k58_disk_by_a_model.Holds := by
  w_on; o_law; k_head; (case hw => w_witness2)
  k_fill
  refine K58.walk (l := PySem.Challenge.rw_hushlink_k58_disk_by_a_model) rfl rfl (fun w h Y => PySem.W.kIn_of Y) ?F
  case F =>
    intro w mg fa h KX G hmg
    refine' K58.all_mk KX G hmg ?a_HushError ?a_OutOfRange ?a_OutOfOrder ?a_PowerLost ?a_Disk ?a_Disk___init__ ?i_Disk___init__ ?l_Disk___init__ ?cd2_Disk___init__ ?k_Disk___init__ ?a_Disk_has_power ?i_Disk_has_power ?l_Disk_has_power ?cd2_Disk_has_power ?k_Disk_has_power ?a_Disk_use_power ?i_Disk_use_power ?l_Disk_use_power ?cd2_Disk_use_power ?k_Disk_use_power ?a_Disk_write ?i_Disk_write ?l_Disk_write ?cd2_Disk_write ?k_Disk_write ?a_Disk_settle ?i_Disk_settle ?l_Disk_settle ?cd2_Disk_settle ?k_Disk_settle ?a_Disk_pending ?i_Disk_pending ?l_Disk_pending ?cd2_Disk_pending ?k_Disk_pending ?a_Disk_cut ?i_Disk_cut ?l_Disk_cut ?cd2_Disk_cut ?k_Disk_cut ?a_Disk_read ?i_Disk_read ?l_Disk_read ?cd2_Disk_read ?k_Disk_read ?a_Disk_arm ?i_Disk_arm ?l_Disk_arm ?cd2_Disk_arm ?k_Disk_arm ?a_Disk_crashes ?i_Disk_crashes ?l_Disk_crashes ?cd2_Disk_crashes ?k_Disk_crashes ?a_Disk_crash ?i_Disk_crash ?l_Disk_crash ?cd2_Disk_crash ?k_Disk_crash ?a__law_cell ?l__law_cell ?cd2__law_cell ?k__law_cell ?a__law_row ?l__law_row ?cd2__law_row ?k__law_row ?a__law_is_integer ?l__law_is_integer ?cd2__law_is_integer ?k__law_is_integer ?a__law_says ?l__law_says ?cd2__law_says ?k__law_says ?a__law_word ?l__law_word ?cd2__law_word ?k__law_word ?a__law_expected ?l__law_expected ?cd2__law_expected ?k__law_expected ?a__law_crash ?l__law_crash ?cd2__law_crash ?k__law_crash ?a__law_is_same ?l__law_is_same ?cd2__law_is_same ?k__law_is_same ?a__law_deed ?l__law_deed ?cd2__law_deed ?k__law_deed ?a_law ?l_law ?cd2_law ?k_law ?n_abs ?n_bool ?n_int ?n_isinstance ?n_len ?n_list ?n_min ?n_range ?g_BANK_SIZE ?pg_Disk ?hd_Disk ?po_Disk ?sa_Disk ?mk_Disk ?kc_Disk ?na_Disk__armed ?na_Disk__crashes ?na_Disk__deeds ?na_Disk__fresh ?na_Disk__settled ?x_HushError ?k_HushError ?b_HushError ?t_HushError ?h_HushError ?x_OutOfRange ?k_OutOfRange ?b_OutOfRange ?t_OutOfRange ?h_OutOfRange ?x_OutOfOrder ?k_OutOfOrder ?b_OutOfOrder ?t_OutOfOrder ?h_OutOfOrder ?x_PowerLost ?k_PowerLost ?b_PowerLost ?t_PowerLost ?h_PowerLost ?su_PowerLost_HushError ?su_OutOfOrder_HushError ?su_OutOfRange_HushError ?eg_PowerLost ?ek_PowerLost ?ea_PowerLost ?em_PowerLost ?eg_OutOfOrder ?ek_OutOfOrder ?ea_OutOfOrder ?em_OutOfOrder ?eg_OutOfRange ?ek_OutOfRange ?ea_OutOfRange ?em_OutOfRange ?en ?et ?ki_PowerLost_PowerLost ?ki_PowerLost_OutOfOrder ?ki_PowerLost_OutOfRange ?ki_OutOfOrder_PowerLost ?ki_OutOfOrder_OutOfOrder ?ki_OutOfOrder_OutOfRange ?ki_OutOfRange_PowerLost ?ki_OutOfRange_OutOfOrder ?ki_OutOfRange_OutOfRange
    (case a_HushError => k_is)
    (case a_OutOfRange => k_is)
    (case a_OutOfOrder => k_is)
    (case a_PowerLost => k_is)
    (case a_Disk => k_is)
    (case a_Disk___init__ => k_is)
    (case i_Disk___init__ => k_is)
    (case l_Disk___init__ => k_is)
    (case cd2_Disk___init__ => k_is)
    (case k_Disk___init__ => k_is)
    (case a_Disk_has_power => k_is)
    (case i_Disk_has_power => k_is)
    (case l_Disk_has_power => k_is)
    (case cd2_Disk_has_power => k_is)
    (case k_Disk_has_power => k_is)
    (case a_Disk_use_power => k_is)
    (case i_Disk_use_power => k_is)
    (case l_Disk_use_power => k_is)
    (case cd2_Disk_use_power => k_is)
    (case k_Disk_use_power => k_is)
    (case a_Disk_write => k_is)
    (case i_Disk_write => k_is)
    (case l_Disk_write => k_is)
    (case cd2_Disk_write => k_is)
    (case k_Disk_write => k_is)
    (case a_Disk_settle => k_is)
    (case i_Disk_settle => k_is)
    (case l_Disk_settle => k_is)
    (case cd2_Disk_settle => k_is)
    (case k_Disk_settle => k_is)
    (case a_Disk_pending => k_is)
    (case i_Disk_pending => k_is)
    (case l_Disk_pending => k_is)
    (case cd2_Disk_pending => k_is)
    (case k_Disk_pending => k_is)
    (case a_Disk_cut => k_is)
    (case i_Disk_cut => k_is)
    (case l_Disk_cut => k_is)
    (case cd2_Disk_cut => k_is)
    (case k_Disk_cut => k_is)
    (case a_Disk_read => k_is)
    (case i_Disk_read => k_is)
    (case l_Disk_read => k_is)
    (case cd2_Disk_read => k_is)
    (case k_Disk_read => k_is)
    (case a_Disk_arm => k_is)
    (case i_Disk_arm => k_is)
    (case l_Disk_arm => k_is)
    (case cd2_Disk_arm => k_is)
    (case k_Disk_arm => k_is)
    (case a_Disk_crashes => k_is)
    (case i_Disk_crashes => k_is)
    (case l_Disk_crashes => k_is)
    (case cd2_Disk_crashes => k_is)
    (case k_Disk_crashes => k_is)
    (case a_Disk_crash => k_is)
    (case i_Disk_crash => k_is)
    (case l_Disk_crash => k_is)
    (case cd2_Disk_crash => k_is)
    (case k_Disk_crash => k_is)
    (case a__law_cell => k_is)
    (case l__law_cell => k_is)
    (case cd2__law_cell => k_is)
    (case k__law_cell => k_is)
    (case a__law_row => k_is)
    (case l__law_row => k_is)
    (case cd2__law_row => k_is)
    (case k__law_row => k_is)
    (case a__law_is_integer => k_is)
    (case l__law_is_integer => k_is)
    (case cd2__law_is_integer => k_is)
    (case k__law_is_integer => k_is)
    (case a__law_says => k_is)
    (case l__law_says => k_is)
    (case cd2__law_says => k_is)
    (case k__law_says => k_is)
    (case a__law_word => k_is)
    (case l__law_word => k_is)
    (case cd2__law_word => k_is)
    (case k__law_word => k_is)
    (case a__law_expected => k_is)
    (case l__law_expected => k_is)
    (case cd2__law_expected => k_is)
    (case k__law_expected => k_is)
    (case a__law_crash => k_is)
    (case l__law_crash => k_is)
    (case cd2__law_crash => k_is)
    (case k__law_crash => k_is)
    (case a__law_is_same => k_is)
    (case l__law_is_same => k_is)
    (case cd2__law_is_same => k_is)
    (case k__law_is_same => k_is)
    (case a__law_deed => k_is)
    (case l__law_deed => k_is)
    (case cd2__law_deed => k_is)
    (case k__law_deed => k_is)
    (case a_law => k_is)
    (case l_law => k_is)
    (case cd2_law => k_is)
    (case k_law => k_is)
    (case n_abs => k_is)
    (case n_bool => k_is)
    (case n_int => k_is)
    (case n_isinstance => k_is)
    (case n_len => k_is)
    (case n_list => k_is)
    (case n_min => k_is)
    (case n_range => k_is)
    (case g_BANK_SIZE => k_is)
    (case pg_Disk => k_is)
    (case hd_Disk => k_is)
    (case po_Disk => k_is)
    (case sa_Disk => k_is)
    (case mk_Disk => k_is)
    (case kc_Disk => k_is)
    (case na_Disk__armed => k_is)
    (case na_Disk__crashes => k_is)
    (case na_Disk__deeds => k_is)
    (case na_Disk__fresh => k_is)
    (case na_Disk__settled => k_is)
    (case x_HushError => k_exc)
    (case k_HushError => k_is)
    (case b_HushError => k_is)
    (case t_HushError => k_is)
    (case h_HushError => k_is)
    (case x_OutOfRange => k_exc)
    (case k_OutOfRange => k_is)
    (case b_OutOfRange => k_is)
    (case t_OutOfRange => k_is)
    (case h_OutOfRange => k_is)
    (case x_OutOfOrder => k_exc)
    (case k_OutOfOrder => k_is)
    (case b_OutOfOrder => k_is)
    (case t_OutOfOrder => k_is)
    (case h_OutOfOrder => k_is)
    (case x_PowerLost => k_exc)
    (case k_PowerLost => k_is)
    (case b_PowerLost => k_is)
    (case t_PowerLost => k_is)
    (case h_PowerLost => k_is)
    (case su_PowerLost_HushError => first | rfl | k_is)
    (case su_OutOfOrder_HushError => first | rfl | k_is)
    (case su_OutOfRange_HushError => first | rfl | k_is)
    (case eg_PowerLost => k_is)
    (case ek_PowerLost => k_is)
    (case ea_PowerLost => k_is)
    (case em_PowerLost => k_is)
    (case eg_OutOfOrder => k_is)
    (case ek_OutOfOrder => k_is)
    (case ea_OutOfOrder => k_is)
    (case em_OutOfOrder => k_is)
    (case eg_OutOfRange => k_is)
    (case ek_OutOfRange => k_is)
    (case ea_OutOfRange => k_is)
    (case em_OutOfRange => k_is)
    (case en => k_is)
    (case et => k_is)
    (case ki_PowerLost_PowerLost => first | rfl | k_is)
    (case ki_PowerLost_OutOfOrder => first | rfl | k_is)
    (case ki_PowerLost_OutOfRange => first | rfl | k_is)
    (case ki_OutOfOrder_PowerLost => first | rfl | k_is)
    (case ki_OutOfOrder_OutOfOrder => first | rfl | k_is)
    (case ki_OutOfOrder_OutOfRange => first | rfl | k_is)
    (case ki_OutOfRange_PowerLost => first | rfl | k_is)
    (case ki_OutOfRange_OutOfOrder => first | rfl | k_is)
    (case ki_OutOfRange_OutOfRange => first | rfl | k_is)

