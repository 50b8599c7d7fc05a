import PyProof.Rows.All
import Wide.All
import OpenK.AllK
import Wide.FinOn
import HandS.Rev
import HandS.RevTup
import HandS.Iter
import HandS.List
import HandS.SortKw
import KE.DataMinMax
import HandS.DictComp
import HandS.ForMost
import HandS.ForExc
import HandS.Small
import HandS.Style
import HandS.TupAny
import HandS.Deep
import HandS.Wide
import HandS.IsInst
import HandS.StrMore
import HandS.Conv
import HandS.CallSlots
import HandS.Zip
import HandS.SortInts
import HandS.RaiseMore
import HandS.WideBits
import HandS.TupLen
import HandS.WordsDict
import HandS.More
import HandS.Codes
import HandS.Exc
import HandS.TryOnly
import HandS.TryMany
import HandS.RevRange
import HandS.Strs
import KE.GoesMore
import KE.GoesEnum
import KE.KExcSuper
import KE.KSuper
import HandS.ExcInit
import HandS.ExcField
import HandS.ExcIs
import KE.KExcIs
import KE.IntBitsLaws
import PySem.Challenge.RW_clockwright_k53_refutations
set_option Elab.async false
set_option maxRecDepth 100000
set_option linter.all false
set_option maxHeartbeats 2000000
set_option maxHeartbeats 1000000
/-! DI, part 0: for x in reversed(a text). -/
namespace RX
open PySem PySem.Spec PyProof.Rows L2 RT
theorem noR : typeLookup (.type "str") "__reversed__" = pure none := by rw [typeLookup_type, builtinLookup_eq_fast]; kernel_rfl
theorem hasG : typeLookup (.type "str") "__getitem__" = pure (some (.builtin "str.__getitem__")) := by rw [typeLookup_type, builtinLookup_eq_fast]; kernel_rfl
def mk (z : Str) (tz : Tok) (i : Int) : Obj := { cls := .type "reversed", data := .fields #[.str z tz, rawInt i] }
/-- reversed(z), the next place i -/
def Rs (h : Heap) (a : Addr) (z : Str) (tz : Tok) (i : Int) : Prop := ∃ ob, h.get? a = some ob ∧ ob.cls = .type "reversed" ∧ ob.data = .fields #[.str z tz, rawInt i]
theorem Rs.at {h h' : Heap} {a : Addr} {z : Str} {tz : Tok} {i : Int} (y : Rs h a z tz i) (e : ∀ ob, h.get? a = some ob → h'.get? a = some ob) : Rs h' a z tz i := let ⟨ob, hob, rr⟩ := y; ⟨ob, e _ hob, rr⟩
section
variable {prog : Program} {w : World} {A : Around} {E : Value → Shared → Prop} {s : Shared}
theorem Rs.ty {a : Addr} {z : Str} {tz : Tok} {i : Int} (y : Rs s.heap a z tz i) : s.TypeIs (.ref a) "reversed" := let ⟨ob, hob, hcl, _⟩ := y; ⟨ob, hob, hcl⟩
theorem code_rs {z : Str} {tz : Tok} {Q₁ : Value → Shared → Prop} (hz : z.length ≤ sizeLine)
    (k : Q₁ (.ref s.heap.objs.size) { s with heap := s.heap.push (mk z tz ((z.length : Int) - 1)), toks := s.toks + 1 + 1 }) :
    codeAny (model prog w) A (.call (.builtin "reversed.__new__") ⟨[.type "reversed", .str z tz], []⟩) (wants Q₁ E) s := by
  have hTS : s.TypeIs (.str z tz) "str" := typeIs_str s z tz
  rw [sizeLine_eq] at hz
  refine codeAny_of_tree ?_
  show wpAny _ A.in1 (do checkBuiltinCall "reversed.__new__" ⟨[.type "reversed", .str z tz], []⟩; again (.builtin "reversed.__new__" ⟨[.type "reversed", .str z tz], []⟩)) _ _ s
  refine wpAny_bind (wpAny_of_eq (F.newCall_reversed_1 _) (wpAny_pure ⟨plainId_quiet F.plain_reversed_new _, codeAny_builtin F.entry_reversed_new ?_⟩)); rw [Around.under_plainId F.plain_reversed_new _]; unfold Builtin.«reversed.__new__»
  refine wpAny_bind (wpAny_of_eq (newClass_reversed _) ?_); try dsimp only
  refine wpAny_bind (wpAny_of_eq (a := ()) (by first | rfl | kernel_rfl) ?_); try dsimp only
  refine wpAny_bind (wpAny_of_eq (a := ()) (by first | rfl | kernel_rfl) ?_); try dsimp only
  refine wpAny_bind (wpAny_specialOf hTS noR ?_)
  try dsimp only
  refine wpAny_bind ?_
  wp_delta
  refine wpAny_bind (wpAny_isInstance (T := "str") (U := "dict") (b := false) hTS PySem.F.sub_str_dict ?_)
  try dsimp only
  try rw [if_neg Bool.false_ne_true]; try dsimp only
  refine wpAny_bind (wpAny_specialOf hTS hasG ?_)
  try dsimp only
  try rw [if_pos (by decide +kernel)]; refine wpAny_pure ?_
  try dsimp only
  try rw [if_neg (by decide)]
  try dsimp only
  refine wpAny_bind (P.len_str (x := z) (t := tz) (by omega) ?_)
  refine wpAny_bind (wpAny_of_eq (a := some ((z.length : Nat) : Int)) rfl ?_)
  try dsimp only
  refine wpAny_bind ?_
  show wpAny _ _ (newObj (.type "reversed") (.fields #[.str z tz, rawInt ((z.length : Int) - 1)])) _ _ _
  refine wpAny_newObj_type ?_
  exact wpAny_pure k
theorem call_rs {z : Str} {tz : Tok} {Q : Value → Shared → Prop} (hz : z.length ≤ sizeLine)
    (k : Q (.ref s.heap.objs.size) { s with heap := s.heap.push (mk z tz ((z.length : Int) - 1)), toks := s.toks + 1 + 1 }) : wpAny (model prog w) A (call (.type "reversed") [.str z tz]) Q E s := by
  refine callType_codes (Q₁ := fun ob s₁ => s₁.TypeIs ob "reversed" ∧ Q ob s₁) called_rt (F.typeCall_reversed_1 _) F.entry_object_init
    (code_rs (A := A.in1) hz ⟨⟨_, Heap.get?_push_size _ rfl, rfl⟩, k⟩) fun ob s₁ q₁ => ?_
  exact ⟨q₁.1, F.args_object_init_2 ob _, object_init_meets called_rt.init.lookup called_rt.made (by decide) prog w A.in1 _ s₁ ⟨q₁.1, rfl, q₁.2⟩⟩
theorem next_rs {it : Addr} {z : Str} {tz : Tok} {i c : Nat} {Q : Option Value → Shared → Prop} (y : Rs s.heap it z tz (i : Int)) (hc : z.cps[i]? = some c) (hz : z.length ≤ sizeLine)
    (k : ∀ h' u, Rs h' it z tz ((i : Int) - 1) → Heap.SameBut it s.heap h' → Q (some (.str ⟨#[c]⟩ u)) { s with heap := h', toks := s.toks + 1 + 1 }) : wpAny (model prog w) A (pyNext (.ref it)) Q E s := by
  obtain ⟨ob, hob, hcl, hda⟩ := id y
  have hi : i < z.cps.size := (Array.getElem?_eq_some_iff.mp hc).1
  have hTS : s.TypeIs (.str z tz) "str" := typeIs_str s z tz
  have hlz : z.length = z.cps.size := rfl
  rw [sizeLine_eq] at hz
  unfold pyNext
  refine wpAny_bind (wpAny_attempt (wpAny_callSpecial?_slot (name := Str.ofString "__next__") y.ty slot_rt_next (wpAny_call_entry slot_rt_next y.ty entry_rt_next ?_ (args_rt_next _))))
  unfold Builtin.«reversed.__next__»; refine wpAny_bind (wpAny_of_eq (a := (Value.ref it, [])) rfl ?_)
  try dsimp only
  refine wpAny_bind (wpAny_field hob hda (x := .str z tz) rfl ?_)
  try dsimp only
  refine wpAny_bind (wpAny_field hob hda (x := rawInt (i : Int)) rfl ?_)
  show wpAny _ _ (if (i : Int) < 0 then _ else _) _ _ s; rw [if_neg (by omega)]
  try dsimp only
  refine wpAny_bind (wpAny_specialOf hTS hasG ?_)
  try dsimp only
  try rw [if_neg (by decide)]
  try dsimp only
  refine wpAny_bind (wpAny_mkInt ?_); refine wpAny_bind (wpAny_attempt ?_)
  have fin : seqIndex? (i : Int) z.length = some i := seqIndex_of (by omega) (by omega)
  refine P.getItem_str (s := { s with toks := s.toks + 1 }) (c := c) (by simp; omega) (by rw [fin]; exact hc) ?_
  try dsimp only
  refine wpAny_bind (wpAny_field (s := { s with toks := s.toks + 1 + 1 }) hob hda (x := rawInt (i : Int)) rfl ?_)
  try dsimp only
  refine wpAny_bind (wpAny_setField (s := { s with toks := s.toks + 1 + 1 }) hob hda (by simp) ?_)
  first
  | refine wpAny_pure ⟨_, rfl, wpAny_pure (k _ _ ?_ (Heap.SameBut.update ..))⟩
  | refine wpAny_bind (wpAny_pure (wpAny_pure ⟨_, rfl, wpAny_pure (k _ _ ?_ (Heap.SameBut.update ..))⟩))
  exact ⟨_, Heap.get?_update_self _ hob (Obj.isFreed_of_fields (Obj.data_mapFields hda _)), (Obj.cls_mapFields ..).trans hcl, by rw [Obj.data_mapFields hda]; simp⟩
theorem end_rs {it : Addr} {z : Str} {tz : Tok} {Q : Option Value → Shared → Prop} (hh : A.handled = none) (y : Rs s.heap it z tz (-1)) (k : ∀ h', Heap.ExtBut it s.heap h' → Q none { s with heap := h' }) : wpAny (model prog w) A (pyNext (.ref it)) Q E s := by
  obtain ⟨ob, hob, hcl, hda⟩ := id y
  unfold pyNext
  refine wpAny_bind (wpAny_attempt (wpAny_callSpecial?_slot (name := Str.ofString "__next__") y.ty slot_rt_next (wpAny_call_entry slot_rt_next y.ty entry_rt_next ?_ (args_rt_next _))))
  unfold Builtin.«reversed.__next__»; refine wpAny_bind (wpAny_of_eq (a := (Value.ref it, [])) rfl ?_)
  try dsimp only
  refine wpAny_bind (wpAny_field hob hda (x := .str z tz) rfl ?_)
  try dsimp only
  refine wpAny_bind (wpAny_field hob hda (x := rawInt (-1)) rfl ?_)
  show wpAny _ _ (if (-1 : Int) < 0 then _ else _) _ _ s; rw [if_pos (by decide)]
  try dsimp only
  refine wpAny_bind (wpAny_rule ?_); refine wpAny_bind ?_
  wp_delta
  refine wpAny_bind (wpAny_setField hob hda (by simp) ?_)
  have ho2 := Heap.get?_update_self (Obj.mapFields (·.setIfInBounds 1 (rawInt (-1)))) hob (Obj.isFreed_of_fields (Obj.data_mapFields hda _))
  refine wpAny_setField (s := { s with heap := s.heap.update it (Obj.mapFields (·.setIfInBounds 1 (rawInt (-1)))) }) ho2 (Obj.data_mapFields hda _) (by simp) ?_
  try dsimp only
  first | show wpAny _ _ (newExc (.type "StopIteration") [] >>= _) _ _ _ | (refine wpAny_bind ?_; show wpAny _ _ (newExc (.type "StopIteration") [] >>= _) _ _ _) | (refine wpAny_bind ?_; wp_delta; show wpAny _ _ (newExc (.type "StopIteration") [] >>= _) _ _ _)
  refine wpAny_bind ?_
  simp only [newExc, newTuple]
  refine wpAny_bind (wpAny_newObj_type ?_ (by size_fits)); refine wpAny_bind (m := firstArgMember _ _) (wpAny_of_eq (a := Value.none) (by first | rfl | (simp only [firstArgMember]; rfl)) ?_)
  refine wpAny_newObj_type ?_ (by size_fits); simp only [raiseNew]
  refine wpAny_bind (wpAny_handled ?_); first | rw [show A.in1.handled = none from hh] | rw [hh]
  refine wpAny_bind (wpAny_pure (wpAny_throw ?_)); refine wpAny_bind (wpAny_isInstance (T := "StopIteration") (b := true) ⟨_, Heap.get?_push_size _ rfl, rfl⟩ isSubtype_stop ?_)
  refine wpAny_pure (k _ ?_)
  refine ((?_ : Heap.ExtBut it s.heap _).push _).push _; exact fun b ob' hb e => (Heap.get?_update_other _ _ (Ne.symm hb)).trans ((Heap.get?_update_other _ _ (Ne.symm hb)).trans e)
theorem iter_rs {it : Addr} {z : Str} {tz : Tok} {i : Int} {Q : Value → Shared → Prop} (y : Rs s.heap it z tz i) (k : Q (.ref it) s) : wpAny (model prog w) A (pyIter (.ref it)) Q E s := by
  refine wpAny_pyIter_slot y.ty slot_rt_iter (wpAny_call_entry slot_rt_iter y.ty entry_rt_iter ?_ (args_rt_iter _))
  show wpAny _ _ (ret (.ref it)) _ _ s; exact wpAny_pure ⟨_, rfl, "reversed", _, y.ty, slot_rt_next.lookup, k⟩
end
/-! the turns -/
def ItsR (z : Str) : It := ⟨fun i _ => i < z.cps.size, fun i H y H' => H' = H ∧ ∃ c, z.cps[z.cps.size - 1 - i]? = some c ∧ y = .str ⟨#[c]⟩, fun i _ => z.cps.size ≤ i⟩
theorem turn_rs {P : Program} {w : World} {K : PySem.W.Frag} {tg : Expr} (it : Addr) (z : Str) (tz : Tok) (hz : z.length ≤ sizeLine) : Turn P w K tg (ItsR z) [it] it (fun i h => i ≤ z.cps.size ∧ Rs h it z tz ((z.cps.size : Int) - 1 - (i : Nat))) where
  mem := by simp
  obj := fun i h st b hb => by
    have eb : b = it := by simpa using hb
    subst eb
    obtain ⟨_, ob, e, c, d⟩ := st
    exact ⟨ob, e, fun y q => by rw [d] at q; cases q⟩
  keep := fun i h h' st k => ⟨st.1, st.2.at fun ob e => k it (by simp) ob e⟩
  item := by
    intro X hP hw hK hc i pins s σ H E I hf st hg; subst hP hw hK
    obtain ⟨f0, f1, f2, f3, f4, f5⟩ := hf it (by simp); obtain ⟨_, hit⟩ := st
    have hgi : i < z.cps.size := hg
    have e1 : (z.cps.size : Int) - 1 - ((i : Nat) : Int) = ((z.cps.size - 1 - i : Nat) : Int) := by omega
    rw [e1] at hit
    have hj : z.cps.size - 1 - i < z.cps.size := by omega
    have hcx : z.cps[z.cps.size - 1 - i]? = some z.cps[z.cps.size - 1 - i] := Array.getElem?_eq_getElem hj
    refine next_rs hit hcx hz fun h' u st' sb => ?_
    have e2 : ((z.cps.size - 1 - i : Nat) : Int) - 1 = (z.cps.size : Int) - 1 - ((i + 1 : Nat) : Int) := by omega
    rw [e2] at st'
    have I1 : Inv X pins σ H { s with heap := h', toks := s.toks + 1 + 1 } := I.turned (t' := s.toks + 1 + 1) (fun b o hb e => (sb.2 b hb).trans e) f0 f1 f3 f4 f5
    obtain ⟨ob, e, c, d⟩ := id st'
    exact ⟨_, rfl, go_of (s := { s with heap := h', toks := s.toks + 1 + 1 }) e c d (by decide) ⟨.str ⟨#[_]⟩, H, I1, ⟨_, rfl⟩, ⟨rfl, _, hcx, rfl⟩, ⟨hgi, st'⟩, fun b hb => (hf b hb).1⟩⟩
  done := by
    intro X hP hw hK hc i pins s σ H E I hf st hg; subst hP hw hK
    obtain ⟨f0, f1, f2, f3, f4, f5⟩ := hf it (by simp); obtain ⟨hin, hit⟩ := st
    have hge : z.cps.size ≤ i := hg
    have e1 : (z.cps.size : Int) - 1 - ((i : Nat) : Int) = -1 := by omega
    rw [e1] at hit
    exact end_rs (I.ok.hd hc) hit fun h' eb => ⟨rfl, I.turned (t' := s.toks) (fun b o hb e => eb b o hb e) f0 f1 f3 f4 f5⟩
  self := fun A i s Q E st h => iter_rs st.2 h
def iRevT (te : TE) : TI := fun σ H R => te σ H fun y H1 => ∃ z, y = .str z ∧ z.length ≤ sizeLine ∧ R (ItsR z) H1
theorem pi_revT {X : Cx} {tg e : Expr} {te : TE} {p pos : Pos} (hg : Gl X "reversed") (hm : X.mg "reversed" = none) (he : PE X e te) (hs : starEach [e] X.env = (false, eval e X.env) :: starEach [] X.env := by rfl) : PI X tg (.Call (.Name "reversed" p) [e] [] pos) (iRevT te) := by
  refine ⟨fun pins s σ H R I h => ?_⟩; refine Call_ (ld_blt I hg hm PyProof.Rows.boot_reversed (PyProof.Rows.callWith_type1 (args_cons (thn (he.run pins s σ H _ I h) fun u s1 ⟨y, H1, I1, r1, q1⟩ => args_nil ?_) hs) hs rfl))
  obtain ⟨z, ey, hz, q⟩ := q1
  subst ey
  obtain ⟨tz, rfl⟩ := r1
  have hn := line63
  refine call_rs hz (iter_rs (i := ((z.length : Nat) : Int) - 1) ⟨_, Heap.get?_push_size _ rfl, rfl, rfl⟩ ?_)
  refine pi_one (tk := s1.toks + 1 + 1) I1 _ (turn_rs _ z tz hz) ⟨Nat.zero_le _, ?_⟩ q
  have e1 : (z.cps.size : Int) - 1 - ((0 : Nat) : Int) = (z.length : Int) - 1 := by
    have : z.length = z.cps.size := rfl
    omega
  rw [e1]
  exact ⟨_, Heap.get?_push_size _ rfl, rfl, rfl⟩
end RX

/-! DI, part 0x: min of a list of data; max, min with default. -/
namespace MX
open PySem PySem.Spec PyProof.Rows L2 PySem.W
section
variable {prog : Program} {w : World} {A : Around} {E : Value → Shared → Prop} {s : Shared}
/-- min of a list of alike data: which item it is -/
theorem min_item {la : Addr} {us : Array Value} {z : PyData} {zs : List PyData} {as : List Addr} {Q : Value → Shared → Prop} (hd : A.handled = none) (il : s.heap.IsList la us) (rd : ReadsAll s.heap us.toList (z :: zs) as) (al : AlikeAll (z :: zs)) (hu : A.units + 1 + PyData.depthAll (z :: zs) < cLine)
    (k : ∀ (i : Nat) u h' tk, us[i]? = some u → (z :: zs).getD i .none = minD z zs → (∀ b o, s.heap.get? b = some o → h'.get? b = some o) → Q u { s with heap := h', toks := tk }) :
    wpAny (model prog w) A (call (.builtin "min") [.ref la]) Q E s := by
  have hn : us.size = zs.length + 1 := readsAll_len rd
  refine call_min_walkH (iter_listW (A := A.in1) hd il fun s₂ e W st hfp hw hk => ?_)
  refine ⟨_, _, _, _, _, _, _, s.heap, _, rfl, W, st, hfp, by omega, hw, hk, cmpIn_lt (A := A.in1) rd al (by show A.units + 1 + _ < _; exact hu), fun u s' hP m => ?_⟩
  obtain ⟨h', tk, rfl, hk'⟩ := moved_old e rfl m
  have e1 : us.size - 1 = zs.length := by omega
  have e2 := (argBest_fold dataLt PyData.none z zs zs.length (Nat.le_refl _)).2
  rw [List.take_length, ← e1] at e2
  exact k _ u h' tk hP e2 hk'
end
def rMinD (K : PySem.W.Frag) : List V → Hp → VK → Prop := fun vs H Q => ∃ (a : Addr) (xs : List V) (z : PyData) (zs : List PyData), vs = [V.ref a] ∧ SqL K H a xs ∧ DpAll K H xs (z :: zs) ∧ AlikeAll (z :: zs) ∧ PyData.depthAll (z :: zs) < 60 ∧
  ∀ (i : Nat) y, xs[i]? = some y → (z :: zs).getD i .none = minD z zs → Q y H
def rDf (K : PySem.W.Frag) (mx : Bool) : List V → List V → Hp → VK → Prop := fun vs ws H Q => ∃ (a : Addr) (ns : List Int) (d : Int), vs = [V.ref a] ∧ ws = [V.int d] ∧ SqL K H a (ns.map V.int) ∧ (ns = [] → Q (.int d) H) ∧ ∀ m, m ∈ ns → (∀ y, y ∈ ns → if mx = true then y ≤ m else m ≤ y) → Q (.int m) H
theorem fold_max : ∀ (ns : List Int) (n : Int), ns.foldl max n ∈ n :: ns ∧ ∀ y ∈ n :: ns, y ≤ ns.foldl max n
  | [], n => ⟨by simp, fun y hy => by rw [List.mem_singleton] at hy; subst hy; exact Int.le_refl _⟩
  | a :: r, n => by
    have ih := fold_max r (max n a)
    rw [List.foldl_cons]
    refine ⟨?_, fun y hy => ?_⟩
    · rcases List.mem_cons.mp ih.1 with h | h
      · rw [h]
        rcases Int.le_total n a with q | q
        · rw [Int.max_eq_right q]; simp
        · rw [Int.max_eq_left q]; simp
      · simp [h]
    · have h1 := ih.2 (max n a) (by simp)
      have h2 := Int.le_max_left n a
      have h3 := Int.le_max_right n a
      rcases List.mem_cons.mp hy with h | h
      · omega
      · rcases List.mem_cons.mp h with h | h
        · omega
        · exact ih.2 y (by simp [h])
theorem fold_min : ∀ (ns : List Int) (n : Int), ns.foldl min n ∈ n :: ns ∧ ∀ y ∈ n :: ns, ns.foldl min n ≤ y
  | [], n => ⟨by simp, fun y hy => by rw [List.mem_singleton] at hy; subst hy; exact Int.le_refl _⟩
  | a :: r, n => by
    have ih := fold_min r (min n a)
    rw [List.foldl_cons]
    refine ⟨?_, fun y hy => ?_⟩
    · rcases List.mem_cons.mp ih.1 with h | h
      · rw [h]
        rcases Int.le_total n a with q | q
        · rw [Int.min_eq_left q]; simp
        · rw [Int.min_eq_right q]; simp
      · simp [h]
    · have h1 := ih.2 (min n a) (by simp)
      have h2 := Int.min_le_left n a
      have h3 := Int.min_le_right n a
      rcases List.mem_cons.mp hy with h | h
      · omega
      · rcases List.mem_cons.mp h with h | h
        · omega
        · exact ih.2 y (by simp [h])
theorem alike_ints (ns : List Int) : AlikeAll (ns.map PyData.int) := by
  refine ⟨fun x hx y hy => ?_, fun x hx => ?_⟩
  · obtain ⟨a, _, rfl⟩ := List.mem_map.mp hx
    obtain ⟨b, _, rfl⟩ := List.mem_map.mp hy
    rfl
  · obtain ⟨a, _, rfl⟩ := List.mem_map.mp hx
    exact fun z => by cases z
theorem depth_is : ∀ ns : List Int, PyData.depthAll (ns.map PyData.int) ≤ 1
  | [] => by simp [PyData.depthAll]
  | a :: r => by have := depth_is r; simp [PyData.depthAll, PyData.depth]; try omega
theorem dpAll_ints {K : PySem.W.Frag} {H : Hp} : ∀ ns : List Int, DpAll K H (ns.map V.int) (ns.map PyData.int)
  | [] => .nil
  | a :: r => .cons (.int a) (dpAll_ints r)
section
variable {X : Cx}
theorem cr_minD (hc : X.calm = true) (hu : X.A.units + 65 < cLine) : CallR X (.builtin "min") (rMinD X.K) := by
  intro pins s σ H vs us Q I r h
  obtain ⟨a, xs, z, zs, rfl, hs, hp, al, dp, q⟩ := h
  obtain ⟨its, rv, hl, _⟩ := I.list hs
  obtain ⟨as, rd⟩ := Dp.readsAll I _ _ _ hp rv
  rw [Vals.ref1 r]
  refine min_item (I.ok.hd hc) hl.isList (by simpa using rd) al (by omega) fun i u h' tk hi he hk => ?_
  have hi' : its[i]? = some u := by simpa using hi
  have hlen := rv.length
  have hlt : i < xs.length := by
    rcases Nat.lt_or_ge i xs.length with c | c
    · exact c
    · rw [List.getElem?_eq_none (by omega)] at hi'; cases hi'
  obtain ⟨u', hu', ru⟩ := rv.get (List.getElem?_eq_getElem hlt)
  rw [hi'] at hu'
  cases hu'
  exact ⟨_, H, I.kept hk, ru, q i _ (List.getElem?_eq_getElem hlt) he⟩
theorem cr_maxDf (hc : X.calm = true) (hu : X.A.units + 65 < cLine) : CallRK X (.builtin "max") [Str.ofString "default"] (rDf X.K true) := by
  intro pins s σ H vs zs us ws Q I r1 r2 h
  obtain ⟨a, ns, d, rfl, rfl, hs, q0, q1⟩ := h
  obtain ⟨its, rv, hl, _⟩ := I.list hs
  obtain ⟨as, rd⟩ := Dp.readsAll I _ _ _ (dpAll_ints ns) rv
  obtain ⟨u, rfl, t, rfl⟩ := Vals.one r2
  rw [Vals.ref1 r1]
  have dd := depth_is ns
  refine max_list_default (I.ok.hd hc) hl.isList (by simpa using rd) (alike_ints ns) (by omega) (fun e h' tk hk => ?_) fun y ys i v h' tk bs e hv rdv hk => ?_
  · exact ⟨.int d, H, I.kept hk, ⟨t, rfl⟩, q0 (by simpa using e)⟩
  · cases ns with
    | nil => simp at e
    | cons n r =>
      simp only [List.map_cons, List.cons.injEq] at e
      obtain ⟨rfl, rfl⟩ := e
      rw [maxD_ints] at rdv
      have f := fold_max r n
      obtain ⟨t', rfl⟩ : ∃ t', v = .int (r.foldl max n) t' := by cases rdv; exact ⟨_, rfl⟩
      exact ⟨.int _, H, I.kept hk, ⟨t', rfl⟩, q1 _ f.1 fun y hy => by rw [if_pos rfl]; exact f.2 y hy⟩
theorem cr_minDf (hc : X.calm = true) (hu : X.A.units + 65 < cLine) : CallRK X (.builtin "min") [Str.ofString "default"] (rDf X.K false) := by
  intro pins s σ H vs zs us ws Q I r1 r2 h
  obtain ⟨a, ns, d, rfl, rfl, hs, q0, q1⟩ := h
  obtain ⟨its, rv, hl, _⟩ := I.list hs
  obtain ⟨as, rd⟩ := Dp.readsAll I _ _ _ (dpAll_ints ns) rv
  obtain ⟨u, rfl, t, rfl⟩ := Vals.one r2
  rw [Vals.ref1 r1]
  have dd := depth_is ns
  refine min_list_default (I.ok.hd hc) hl.isList (by simpa using rd) (alike_ints ns) (by omega) (fun e h' tk hk => ?_) fun y ys i v h' tk bs e hv rdv hk => ?_
  · exact ⟨.int d, H, I.kept hk, ⟨t, rfl⟩, q0 (by simpa using e)⟩
  · cases ns with
    | nil => simp at e
    | cons n r =>
      simp only [List.map_cons, List.cons.injEq] at e
      obtain ⟨rfl, rfl⟩ := e
      rw [minD_ints] at rdv
      have f := fold_min r n
      obtain ⟨t', rfl⟩ : ∃ t', v = .int (r.foldl min n) t' := by cases rdv; exact ⟨_, rfl⟩
      exact ⟨.int _, H, I.kept hk, ⟨t', rfl⟩, q1 _ f.1 fun y hy => by rw [if_neg (by decide)]; exact f.2 y hy⟩
end
end MX

/-! DI, part 1: the code of the Python subset and its reading. -/
namespace DI
open L2
open PySem.Spec
open PySem

section
open PyProof.Rows hiding St
/-- a turn by what the kit's walks of tuples tell -/
theorem turn_walksT {P : Program} {w : World} {K : PySem.W.Frag} {elts : List Expr} {kk : Nat} {tpos : Pos} {it : Addr} {fp wr : List Addr} {n : Nat} {Pt : Nat → Array Value → Prop} {St : Nat → Heap → Prop} {Mid : Nat → Addr → Heap → Prop} {J : It}
    (W : ∀ A : Around, A.handled = none → WalksT P w A it fp wr n Pt St Mid) (hm : it ∈ fp) (hobj : ∀ i h, St i h → ∀ b ∈ fp, ∃ o, h.get? b = some o ∧ ∀ v, o.data ≠ .cell v)
    (hgo : ∀ i H, J.go i H → i < n) (hstop : ∀ i H, J.stop i H → n ≤ i)
    (hself : ∀ (A : Around) (i : Nat) (s : Shared) (Q : Value → Shared → Prop) (E : Value → Shared → Prop), St i s.heap → Q (.ref it) s → wpAny (model P w) A (pyIter (.ref it)) Q E s)
    (hval : ∀ i vals, Pt i vals → ∃ vs : List V, Vals vs vals.toList ∧ vs.length ≤ sizeLine ∧ ∀ (H : Hp) T, H T = none → J.yld i H (.ref T) (upd H T (.tup vs))) :
    Turn P w K (.Tuple elts kk tpos) J fp it (fun i h => i ≤ n ∧ St i h) where
  mem := hm
  obj := fun i h st => hobj i h st.2
  keep := fun i h h' st k => ⟨st.1, (W callerA rfl).frame i h h' st.2 k⟩
  item := by
    intro X hP hw hK hc i pins s σ H E I hf st hg
    subst hP hw hK
    have D := W X.A (I.ok.hd hc)
    refine D.item i s _ _ (hgo i H hg) st.2 fun T vals h' tk hp hT ht hmid hk => ?_
    refine ⟨_, rfl, D.go elts kk tpos i T { s with heap := h', toks := tk } _ _ hmid fun h'' st' hk' => ?_⟩
    obtain ⟨vs, rv, hl, hy⟩ := hval i vals hp
    have hn : H T = none := I.hok.fresh hT
    have ht2 := ht.at fun o e => hk' T o (D.apart i T h' hmid) e
    obtain ⟨ot, e1, e2, nn, e3⟩ := ht2
    have new : ObjOk X.prog X.w (upd H T (.tup vs)) h'' T (.tup vs) := ⟨hl, vals.toList, rv, ⟨ot, e1, e2, nn, by rw [e3]⟩⟩
    have I1 : Inv X pins σ (upd H T (.tup vs)) { s with heap := h'', toks := tk } :=
      I.turnedNew (t' := tk) (ch := wr) (fun c o hb q => hk' c o hb (hk c o hb q)) (fun b hb => hf b (D.sub b hb)) hT new
    refine ⟨.ref T, _, I1, rfl, hy H T hn, ⟨hgo i H hg, st'⟩, fun c hcm => ?_⟩
    obtain ⟨oc, ec, _⟩ := hobj i s.heap st.2 c hcm
    have hlt : c < s.heap.objs.size := Heap.lt_size ec
    rw [upd_ne (Nat.ne_of_lt (Nat.lt_of_lt_of_le hlt hT))]
    exact (hf c hcm).1
  done := by
    intro X hP hw hK hc i pins s σ H E I hf st hg
    subst hP hw hK
    have D := W X.A (I.ok.hd hc)
    have e : i = n := Nat.le_antisymm st.1 (hstop i H hg)
    subst e
    exact D.done s _ _ st.2 fun h' tk hk => ⟨rfl, I.turnedL (t' := tk) (ch := wr) hk fun b hb => hf b (D.sub b hb)⟩
  self := fun A i s Q E st h => hself A i s Q E st.2 h
/-- the turns over zip of two texts: new pairs of signs -/
def Izs (x y : Str) : It := ⟨fun i _ => i < min x.cps.size y.cps.size, fun i H v H' => ∃ T c d, v = .ref T ∧ H T = none ∧ H' = upd H T (.tup [.str ⟨#[c]⟩, .str ⟨#[d]⟩]) ∧ x.cps[i]? = some c ∧ y.cps[i]? = some d, fun i _ => min x.cps.size y.cps.size ≤ i⟩
theorem turn_zipS {P : Program} {w : World} {K : PySem.W.Frag} {elts : List Expr} {kk : Nat} {tpos : Pos} {z TI TO i1 i2 : Addr} {x y : Str} {t u : Tok} (S : ZipSep2 z TI TO i1 i2 [i1] [i2]) :
    Turn P w K (.Tuple elts kk tpos) (Izs x y) (z :: TI :: TO :: ([i1] ++ [i2])) z
      (fun i h => i ≤ min x.cps.size y.cps.size ∧ IsZip h z TI TO .none ∧ IsTupOf2 h TI (.ref i1) (.ref i2) ∧ (∃ a1 a2, IsTupOf2 h TO a1 a2) ∧ h.IsStrIter i1 (strIterType x) x t i ∧ h.IsStrIter i2 (strIterType y) y u i) := by
  refine turn_walksT (fun A hA => WalksT.zipD2 S (Draws.text (A := A.in1) hA i1 x t) (Draws.text (A := A.in1) hA i2 y u)) (by simp) (fun i h st b hb => ?_) (fun i H h => h) (fun i H h => h) (fun A i s Q E st h => ?_) fun i vals hp => ?_
  · obtain ⟨hz, hTI, ⟨a1, a2, hTO⟩, ⟨o1, g1, c1, d1⟩, o2, g2, c2, d2⟩ := st
    have e' : b = z ∨ b = TI ∨ b = TO ∨ b = i1 ∨ b = i2 := by simpa using hb
    rcases e' with q | q | q | q | q
    · rw [q]; exact ⟨_, hz, fun v q => nomatch q⟩
    · rw [q]; exact ⟨_, hTI, fun v q => nomatch q⟩
    · rw [q]; exact ⟨_, hTO, fun v q => nomatch q⟩
    · rw [q]; exact ⟨o1, g1, fun v q => by rw [d1] at q; cases q⟩
    · rw [q]; exact ⟨o2, g2, fun v q => by rw [d2] at q; cases q⟩
  · exact wpAny_pyIter_zip st.1 h
  · obtain ⟨x1, x2, ⟨c, t1, hc, rfl⟩, ⟨d, t2, hd, rfl⟩, rfl⟩ := hp
    exact ⟨[.str ⟨#[c]⟩, .str ⟨#[d]⟩], .cons ⟨_, rfl⟩ (.cons ⟨_, rfl⟩ .nil), by show 2 ≤ sizeLine; decide, fun H T hT => ⟨T, c, d, rfl, hT, rfl, hc, hd⟩⟩
def iZipS (ta : TA) : TI := fun σ H R => ta σ H fun vs H1 => ∃ x y : Str, vs = [.str x, .str y] ∧ R (Izs x y) H1
theorem pi_zipS {X : Cx} {e e2 : Expr} {ta : TA} {p pos tpos : Pos} {elts : List Expr} {kk : Nat} (hg : Gl X "zip") (hm : X.mg "zip" = none) (ha : PA X [e, e2] ta)
    (hs : starEach [e, e2] X.env = (false, eval e X.env) :: starEach [e2] X.env := by rfl) (hpl : (backTo pos (starEach [e2] X.env)).any (·.1) = false := by rfl) :
    PI X (.Tuple elts kk tpos) (.Call (.Name "zip" p) [e, e2] [] pos) (iZipS ta) := by
  refine ⟨fun pins s σ H R I h => ?_⟩
  refine Call_ (ld_blt I hg hm PyProof.Rows.boot_zip (PyProof.Rows.callWith_type1 (thn (ha.run pos pins s σ H _ I h) fun us s1 ⟨vs, H1, I1, r1, q1⟩ => ?_) hs hpl))
  obtain ⟨x, y, ex, q⟩ := q1
  subst ex
  cases r1 with
  | cons r rr =>
    cases rr with
    | cons r' rr =>
      cases rr
      obtain ⟨t, rfl⟩ := r
      obtain ⟨u, rfl⟩ := r'
      have fresh5 : ∀ c, c ∈ (s1.heap.objs.size + 4) :: (s1.heap.objs.size + 2) :: (s1.heap.objs.size + 3) :: ([s1.heap.objs.size] ++ [s1.heap.objs.size + 1]) → FpOk X pins H1 c := fun c hcm => by
        have e' : c = s1.heap.objs.size + 4 ∨ c = s1.heap.objs.size + 2 ∨ c = s1.heap.objs.size + 3 ∨ c = s1.heap.objs.size ∨ c = s1.heap.objs.size + 1 := by simpa using hcm
        have hle : s1.heap.objs.size ≤ c := by
          rcases e' with z | z | z | z | z
          · rw [z]; exact Nat.le_add_right _ _
          · rw [z]; exact Nat.le_add_right _ _
          · rw [z]; exact Nat.le_add_right _ _
          · rw [z]; exact Nat.le_refl _
          · rw [z]; exact Nat.le_add_right _ _
        exact I1.fpOk hle (I1.hok.fresh hle)
      refine zip_begins2 (begins_text x t) (begins_text y u) trivial trivial fun h' hz hTI hTO h1 h2 hsz hk => wpAny_pyIter_zip hz ?_
      have I2 : Inv X pins σ H1 { s1 with heap := h' } := I1.kept (t' := s1.toks) hk
      exact ⟨s1.heap.objs.size + 4, _, _, _, H1, rfl, I2, turn_zipS (zip_sep2 (fp1 := []) (fp2 := []) (by simp) (by simp)), ⟨Nat.zero_le _, hz, hTI, ⟨_, _, hTO⟩, ⟨_, h1, rfl, rfl⟩, ⟨_, h2, rfl, rfl⟩⟩, fresh5, q⟩
/-! enumerate over a tuple -/
set_option maxHeartbeats 1000000 in
theorem meets_enum1 {v : Value} {o : Obj} {H : Heap → Prop} (Bg : Begins v o H) :
    Meets (Builtin.«enumerate.__new__» ⟨[.type "enumerate", v], []⟩) (fun _ R s => H s.heap ∧
      R (.ok (.ret (.ref (s.heap.push o).objs.size))) { s with heap := (s.heap.push o).push { cls := .type "enumerate", data := .fields #[.none, .bool false, .ref s.heap.objs.size, rawInt 0, .none, .none] } }) :=
  .of_wp fun prog w A R s h => by
    obtain ⟨hh0, g, d, tk0, os⟩ := s; obtain ⟨hA, h⟩ := h
    have sub0 := sub_enumerate
    have beg : ∀ {A' : Around} {E : Value → Shared → Prop} {Q : Value → Shared → Prop}, Q (.ref hh0.objs.size) ⟨hh0.push o, g, d, tk0, os⟩ → wpAny (model prog w) A' (pyIter v) Q E ⟨hh0, g, d, tk0, os⟩ :=
      fun q => Bg.iter prog w _ _ ⟨hh0, g, d, tk0, os⟩ _ hA q
    wp_walk using beg
    refine wpAny_stack_any fun st => wpAny_pure ?_
    split
    · rename_i c _ _ _ _ _
      cases (c == Value.type "enumerate")
      · wp_walk using beg
        exact ⟨_, rfl, h⟩
      · wp_walk using beg
        exact ⟨_, rfl, h⟩
    · wp_walk using beg
      exact ⟨_, rfl, h⟩
theorem enum_begins1 {prog : Program} {w : World} {A : Around} {E : Value → Shared → Prop} {s : Shared} {v : Value} {o : Obj} {H : Heap → Prop} {Q : Value → Shared → Prop} (Bg : Begins v o H) (hA : H s.heap)
    (h : ∀ hB1, IsEnum hB1 (s.heap.objs.size + 1) s.heap.objs.size 0 .none → hB1.get? s.heap.objs.size = some o → hB1.objs.size = s.heap.objs.size + 2 →
      (∀ b o, s.heap.get? b = some o → hB1.get? b = some o) → Q (.ref (s.heap.objs.size + 1)) { s with heap := hB1 }) :
    wpAny (model prog w) A (call (.type "enumerate") [v]) Q E s := by
  refine callType_new F.called_enumerate (by decide) (F.typeCall_enumerate_1 _) (F.newCall_enumerate_1 _) (fun q => F.args_object_init_2 q _) F.entry_enumerate_new
    (meets_enum1 Bg) ⟨hA, ?_⟩
  have small : (s.heap.push o).objs.size = s.heap.objs.size + 1 := Heap.size_push ..
  show _ ∧ _
  rw [small]
  have hE : IsEnum ((s.heap.push o).push { cls := .type "enumerate", data := .fields #[.none, .bool false, .ref s.heap.objs.size, rawInt 0, .none, .none] }) (s.heap.objs.size + 1) s.heap.objs.size 0 .none := by
    have := Heap.get?_push_size (s.heap.push o) (o := { cls := .type "enumerate", data := .fields #[.none, .bool false, .ref s.heap.objs.size, rawInt 0, .none, .none] }) rfl
    rw [small] at this; exact this
  refine ⟨⟨_, hE, rfl⟩, h _ hE (Heap.get?_push_of_some _ (Heap.get?_push_size _ Bg.free)) (by rw [Heap.size_push, small]) fun b o x => Heap.get?_push_of_some _ (Heap.get?_push_of_some _ x)⟩
/-- the tuple at a, each item in a fresh pair -/
def IteT (K : PySem.W.Frag) (a : Addr) (n : Nat) : It :=
  ⟨fun i H => ∃ (xs : List V) (x : V), SqT K H a xs ∧ xs.length = n ∧ xs[i]? = some x, fun i H v H' => ∃ T x, v = .ref T ∧ H T = none ∧ H' = upd H T (.tup [.int (i : Nat), x]) ∧ ∀ xs, SqT K H a xs → xs[i]? = some x, fun i H => ∃ xs : List V, SqT K H a xs ∧ xs.length = n ∧ n ≤ i⟩
theorem turn_enumT {P : Program} {w : World} {K : PySem.W.Frag} {elts : List Expr} {kk : Nat} {tpos : Pos} (a e it : Addr) (n : Nat) :
    Turn P w K (.Tuple elts kk tpos) (IteT K a n) [e, it] e (fun i h => i ≤ n ∧ (∃ prev, IsEnum h e it ((i : Nat) : Int) prev) ∧ h.IsTupleIter it a i ∧ e ≠ it) where
  mem := by simp
  obj := fun i h st b inB => by
    obtain ⟨_, ⟨prev, hE⟩, ⟨o, ho, hc, hd⟩, _⟩ := st
    have two : b = e ∨ b = it := by simpa using inB
    rcases two with z | z
    · rw [z]; exact ⟨_, hE, fun v q => nomatch q⟩
    · rw [z]; exact ⟨o, ho, fun v q => by rw [hd] at q; cases q⟩
  keep := fun i h hB1 st k => let ⟨below, ⟨prev, hE⟩, lt_, hN⟩ := st; ⟨below, ⟨prev, k e (by simp) _ hE⟩, lt_.at fun o q => k it (by simp) o q, hN⟩
  item := by
    intro X q1 q2 q3 hc i pins s σ H E I off st step
    subst q1 q2 q3
    obtain ⟨below, ⟨prev, hE⟩, hI, hN⟩ := st
    obtain ⟨xs, x, sq, len_, at_⟩ := step
    obtain ⟨us, rel, p, small⟩ := I.tuple sq
    obtain ⟨uv, atU, relU⟩ := rel.get at_
    have ltE : e < s.heap.objs.size := Heap.lt_size hE
    have ltI : it < s.heap.objs.size := by obtain ⟨_, q, _⟩ := hI; exact Heap.lt_size q
    have apI : a ≠ it := fun z => by
      subst z
      obtain ⟨o1, g1, c1, _⟩ := p
      obtain ⟨o2, g2, c2, _⟩ := hI
      rw [g1] at g2
      cases g2
      rw [c1] at c2
      exact absurd c2 (by decide)
    have apE : e ≠ a := fun z => by
      subst z
      obtain ⟨o1, g1, c1, _⟩ := p
      have hE2 : s.heap.get? e = _ := hE
      rw [g1] at hE2
      cases hE2
      exact absurd c1 (by simp)
    have hh : (X.A.in1).handled = none := I.ok.hd hc
    have lt_ : i < xs.length := by
      rcases Nat.lt_or_ge i xs.length with h | h
      · exact h
      · rw [List.getElem?_eq_none h] at at_; cases at_
    refine wpAny_pyNext_enum_itemC (Draws.tuple (prog := X.prog) (w := X.w) hh it a apI us.toArray) hE ⟨hI, p⟩ (by
      have := rel.length
      simp; omega) hN (by simp [hN, apE]) fun item hB1 tk0 hx' ho hI2 tup hZ kp0 => ?_
    have same : item = uv := by
      have : us[i]? = some item := by simpa using hx'
      rw [atU] at this
      cases this
      rfl
    subst same
    refine ⟨_, rfl, wpAny_letOwnedTupleGo_enum (s := { s with heap := hB1, toks := tk0 + 1 }) ho fun hB2 hE2 but => ?_⟩
    have tup2 : hB2.get? s.heap.objs.size = some { cls := .type "tuple", data := .seq #[.int i tk0, item] } := (but.2 _ (Nat.ne_of_gt ltE)).trans tup
    have fresh : ObjOk X.prog X.w (upd H s.heap.objs.size (.tup [.int (i : Nat), x])) hB2 s.heap.objs.size (.tup [.int (i : Nat), x]) :=
      ⟨by show 2 ≤ sizeLine; decide, [.int i tk0, item], .cons ⟨_, rfl⟩ (.cons relU .nil), ⟨_, tup2, rfl, _, rfl⟩⟩
    have J1 : Inv X pins σ (upd H s.heap.objs.size (.tup [.int (i : Nat), x])) { s with heap := hB2, toks := tk0 + 1 } :=
      I.turnedNew (ch := [e, it]) (fun b ob inB q => (but.2 b (fun z => inB (by simp [z]))).trans (kp0 b ob (fun z => inB (by simp [z])) (fun z => inB (by simp [z])) q)) off (Nat.le_refl _) fresh
    refine ⟨.ref s.heap.objs.size, _, J1, rfl, ⟨_, x, rfl, I.hok.fresh (Nat.le_refl _), rfl, fun ys hy => by rw [I.tuple_inj hy sq]; exact at_⟩, ⟨by omega, ⟨item, ?_⟩, hI2.1.at fun o q => (but.2 it (Ne.symm hN)).trans q, hN⟩, fun b inB => ?_⟩
    · have e1 : ((i + 1 : Nat) : Int) = (i : Int) + 1 := by omega
      rw [e1]; exact hE2
    · have ltB : b < s.heap.objs.size := by
        have two : b = e ∨ b = it := by simpa using inB
        rcases two with z | z
        · rw [z]; exact ltE
        · rw [z]; exact ltI
      rw [upd_ne (Nat.ne_of_lt ltB)]
      exact (off b inB).1
  done := by
    intro X q1 q2 q3 hc i pins s σ H E I off st step
    subst q1 q2 q3
    obtain ⟨below, ⟨prev, hE⟩, hI, hN⟩ := st
    obtain ⟨xs, sq, len_, at_⟩ := step
    obtain ⟨us, rel, p, small⟩ := I.tuple sq
    obtain ⟨g0, g1, g2, g3, g4, g5⟩ := off it (by simp)
    have lenR := rel.length
    have apI : a ≠ it := fun z => by
      subst z
      obtain ⟨o1, g1, c1, _⟩ := p
      obtain ⟨o2, g2, c2, _⟩ := hI
      rw [g1] at g2
      cases g2
      rw [c1] at c2
      exact absurd c2 (by decide)
    have hh : (X.A.in1).handled = none := I.ok.hd hc
    refine wpAny_pyNext_enum_endD (Draws.tuple (prog := X.prog) (w := X.w) hh it a apI us.toArray) hE ⟨by
      have e : us.toArray.size = i := by simp; omega
      rw [e]; exact hI, p⟩ fun hB1 kp1 => ⟨rfl, I.turned (t' := s.toks) (fun b o inB q => kp1 b o inB q) g0 g1 g3 g4 g5⟩
  self := fun A i s Q E st h => let ⟨_, ⟨_, hE⟩, _⟩ := st; wpAny_pyIter_enum hE h
def iEnumT (K : PySem.W.Frag) (ta : TA) : TI := fun σ H R => ta σ H fun vs H1 => ∃ a xs, vs = [.ref a] ∧ SqT K H1 a xs ∧ R (IteT K a xs.length) H1
theorem pi_enumT {X : Cx} {e : Expr} {ta : TA} {p pos tpos : Pos} {elts : List Expr} {kk : Nat} (step : Gl X "enumerate") (hm : X.mg "enumerate" = none) (ha : PA X [e] ta) (hs : starEach [e] X.env = [(false, eval e X.env)] := by rfl) :
    PI X (.Tuple elts kk tpos) (.Call (.Name "enumerate" p) [e] [] pos) (iEnumT X.K ta) := by
  refine ⟨fun pins s σ H R I h => ?_⟩
  refine Call_ (ld_blt I step hm boot_enumerate (PyProof.Rows.callWith_type1 (thn (ha.run pos pins s σ H _ I h) fun us s1 ⟨vs, H1, J1, r1, beg⟩ => ?_) hs rfl))
  obtain ⟨a, xs, ex, sq, q⟩ := beg
  subst ex
  cases r1 with
  | cons r rr =>
    cases rr
    cases r
    obtain ⟨us, rel, pt, small⟩ := J1.tuple sq
    refine enum_begins1 (begins_tuple a us.toArray) pt fun hB1 hE hI hZ kp0 => wpAny_pyIter_enum hE ?_
    have J2 : Inv X pins σ H1 { s1 with heap := hB1 } := J1.kept (t' := s1.toks) kp0
    refine ⟨s1.heap.objs.size + 1, [s1.heap.objs.size + 1, s1.heap.objs.size], _, _, H1, rfl, J2, turn_enumT a (s1.heap.objs.size + 1) s1.heap.objs.size xs.length, ⟨Nat.zero_le _, ⟨.none, hE⟩, ⟨_, hI, rfl, rfl⟩, Nat.succ_ne_self _⟩, fun b inB => ?_, q⟩
    have two : b = s1.heap.objs.size + 1 ∨ b = s1.heap.objs.size := by simpa using inB
    have above : s1.heap.objs.size ≤ b := by
      rcases two with z | z
      · rw [z]; exact Nat.le_add_right _ _
      · rw [z]; exact Nat.le_refl _
    exact J1.fpOk above (J1.hok.fresh above)
end
/-- what the reading hangs on: the written part, the class objects, the globals' values, the callees' promises -/
structure Ev where
  K : PySem.W.Frag
  cls : Nat → Addr
  gv : Nat → V
  sp : Nat → Sp
  /-- the exception classes that may be raised, with their field; the exception that an except suite holds -/
  exs : List (Nat × Str) := []
  ex : Option (Addr × Value × Option Addr) := none

/-- built-in functions -/
inductive Bf where
  | len | int | str | abs | max | min | sum | list | tuple | sorted | all | any | isi | repr
  deriving DecidableEq
/-- methods of built-in types -/
inductive Bm where
  | append | pop | extend | insert | join | find | split | lstrip | indexS | indexL
  deriving DecidableEq

/-- the type of a method's receiver -/
def Bm.ty : Bm → String
  | .append => "list"
  | .pop => "list"
  | .extend => "list"
  | .insert => "list"
  | .join => "str"
  | .find => "str"
  | .split => "str"
  | .lstrip => "str"
  | .indexS => "str"
  | .indexL => "list"
mutual
/-- expressions -/
inductive Xp where
  | v (i : Nat)
  | c (x : V)
  | g (i : Nat)
  | ty (n : String)
  | bin (op : Operator) (a b : Xp)
  | neg (a : Xp)
  | cmp (op : CmpOp) (a b : Xp)
  | chn (o1 o2 : CmpOp) (a b c : Xp)
  | and (a b : Xp)
  | or (a b : Xp)
  | not (a : Xp)
  | ite (t : Tt) (a b : Xp)
  | tup (es : Xps)
  | lst (es : Xps)
  | dct0 | dctT0
  | dct (ks vs : Xps)
  | dget (d k x : Xp)
  | lrg1 (a : Xp)
  | lrg2 (a b : Xp)
  | chn3 (o1 o2 o3 : CmpOp) (a b c d : Xp)
  | ef (i : Nat) (f : Str)
  | ei (i : Nat) (C : Nat)
  | eib (i : Nat) (n : String)
  | ix (a i : Xp)
  | sl (a : Xp) (lo hi : Xpo)
  | rev (a : Xp)
  | fld (C : Nat) (o : Xp) (f : Str)
  | call (f : Nat) (es : Xps)
  | callk (f : Nat) (es ks : Xps)
  | bits (a : Xp)
  | mk (C f : Nat) (es : Xps)
  | meth (m C : Nat) (nm : Str) (o : Xp) (es : Xps)
  | bc (b : Bf) (es : Xps)
  /-- max, min with default -/
  | mxd (mx : Bool) (a d : Xp)
  /-- len(x), x of a class of the text -/
  | lenO (m C : Nat) (es : Xps)
  | bm (m : Bm) (o : Xp) (es : Xps)
  | lc (el : Xp) (tg : Tg) (it : Sq) (ifs : Tto) (own : List Nat)
  | dc (k el : Xp) (tg : Tg) (it : Sq) (ifs : Tto) (own : List Nat)
/-- a slice's part -/
inductive Xpo where
  | no
  | so (e : Xp)
inductive Xps where
  | nil
  | cons (e : Xp) (r : Xps)
/-- tests -/
inductive Tt where
  | tr (e : Xp)
  | cmp (op : CmpOp) (a b : Xp)
  | chn (o1 o2 : CmpOp) (a b c : Xp)
  | chn3 (o1 o2 o3 : CmpOp) (a b c d : Xp)
  | and (a b : Tt)
  | or (a b : Tt)
  | not (a : Tt)
inductive Tto where
  | no
  | so (t : Tt)
/-- what a for walks -/
inductive Sq where
  | lst (e : Xp)
  | tup (e : Xp)
  | txt (e : Xp)
  | rng1 (a : Xp)
  | rng2 (a b : Xp)
  | rng3 (a b c : Xp)
  | enm (e : Xp)
  | zip (a b : Xp)
  | zipS (a b : Xp)
  | rvs (e : Xp)
  | rvT (e : Xp)
  | rvr1 (a : Xp)
  | rvr2 (a b : Xp)
  | any (a b : Sq)
  | enmT (e : Xp)
/-- targets -/
inductive Tg where
  | nm (i : Nat)
  | tup (gs : Tgs)
  | sub (o i : Xp)
inductive Tgs where
  | nil
  | cons (g : Tg) (r : Tgs)
end
mutual
/-- statements -/
inductive Sm where
  | asg (g : Tg) (e : Xp)
  | asl (i : Nat) (el : Xp) (tg : Tg) (it : Sq) (ifs : Tto) (own : List Nat)
  | par (i j : Nat) (a b : Xp)
  | par3 (i j l : Nat) (a b c : Xp)
  | fld (C : Nat) (o : Xp) (f : Str) (e : Xp)
  | aug (i : Nat) (op : Operator) (e : Xp)
  | augf (C : Nat) (o : Xp) (f : Str) (op : Operator) (e : Xp)
  | exp (e : Xp)
  | ret (e : Xp)
  | retN
  | pass
  | brk
  | cnt
  | ite (t : Tt) (a b : Sms)
  | whl (t : Tt) (b : Sms)
  | for_ (tg : Tg) (it : Sq) (b : Sms)
  | rai (C : Nat) (f : Str) (es : Xps)
  | tryA (b : Sms) (C : Nat) (i : Nat) (s : Sms)
  | tryO (b : Sms) (C : Nat) (s : Sms)
  | tryM (b : Sms) (hs : Hds)
  | ddel (d k : Xp)
  | never
inductive Sms where
  | nil
  | cons (s : Sm) (r : Sms)
/-- except clauses without a name -/
inductive Hds where
  | nil
  | cons (C : Nat) (s : Sms) (r : Hds)
end

/-! ### operations by values -/
section
variable (K : PySem.W.Frag)
/-- + of two things of the heap -/
inductive RCat (a b : Addr) (H : Hp) (Q : VK) : Prop
  | lst {xs ys : List V} (ha : H a = some (.lst xs)) (hb : H b = some (.lst ys)) (hz : xs.length + ys.length ≤ sizeLine) (q : ∀ p, H p = none → Q (.ref p) (upd H p (.lst (xs ++ ys))))
  | tup {xs ys : List V} (ha : SqT K H a xs) (hb : SqT K H b ys) (hz : xs.length + ys.length ≤ sizeLine) (q1 : xs = [] → Q (.ref b) H) (q2 : xs ≠ [] → ys = [] → Q (.ref a) H)
      (q3 : xs ≠ [] → ys ≠ [] → ∀ p, H p = none → Q (.ref p) (upd H p (.tup (xs ++ ys))))
def rAdd : R2 := fun x y H Q => match x, y with
  | .int i, .int j => Q (.int (i + j)) H
  | .str a, .str b => a.length + b.length ≤ sizeLine ∧ Q (.str (a ++ b)) H
  | .ref a, .ref b => RCat K a b H Q
  | _, _ => False
def rSub : R2 := fun x y H Q => match x, y with
  | .int i, .int j => Q (.int (i - j)) H
  | _, _ => False
inductive RRep (a : Addr) (k : Int) (H : Hp) (Q : VK) : Prop
  | lst {xs : List V} (ha : H a = some (.lst xs)) (h1 : -(2 ^ 63) ≤ k) (h2 : k < 2 ^ 63) (hz : xs.length * k.toNat ≤ sizeLine) (q : ∀ p, H p = none → Q (.ref p) (upd H p (.lst (List.replicate k.toNat xs).flatten)))
def rMul : R2 := fun x y H Q => match x, y with
  | .int i, .int j => CMul i j ∧ Q (.int (i * j)) H
  | .str a, .int k => MulOk a k ∧ Q (.str (Txt.mul a k)) H
  | .ref a, .int k => RRep a k H Q
  | _, _ => False
def rFdv : R2 := fun x y H Q => match x, y with
  | .int i, .int j => (0 < j ∧ j.natAbs.log2 < 9000) ∧ Q (.int (i / j)) H
  | _, _ => False
def rMod : R2 := fun x y H Q => match x, y with
  | .int i, .int j => 0 < j ∧ Q (.int (i % j)) H
  | _, _ => False
def rPow : R2 := fun x y H Q => match x, y with
  | .int i, .int j => CPow i j ∧ Q (.int (i ^ j.toNat)) H
  | _, _ => False
def rShl : R2 := fun x y H Q => match x, y with
  | .int i, .int j => (CPow i j ∨ CShl i j) ∧ Q (.int (i * 2 ^ j.toNat)) H
  | _, _ => False
def rShr : R2 := fun x y H Q => match x, y with
  | .int i, .int j => 0 ≤ j ∧ Q (.int (i / 2 ^ j.toNat)) H
  | _, _ => False
def rAnd : R2 := fun x y H Q => match x, y with
  | .int i, .int j => Q (.int (Builtin.bitAnd i j)) H
  | _, _ => False
def rOr : R2 := fun x y H Q => match x, y with
  | .int i, .int j => Q (.int (Builtin.bitOr i j)) H
  | _, _ => False
def rXor : R2 := fun x y H Q => match x, y with
  | .int i, .int j => Q (.int (Builtin.bitXor i j)) H
  | _, _ => False
def rBin : Operator → R2
  | .Add => rAdd K
  | .Sub => rSub
  | .Mult => rMul
  | .FloorDiv => rFdv
  | .Mod => rMod
  | .Pow => rPow
  | .LShift => rShl
  | .RShift => rShr
  | .BitAnd => rAnd
  | .BitOr => rOr
  | .BitXor => rXor
  | _ => fun _ _ _ _ => False

/-- data of any depth, dicts too -/
def kD : Key → PyData
  | .inl i => .int i
  | .inr x => .str x
mutual
inductive Dq (H : Hp) : V → PyData → Prop
  | non : Dq H .non .none
  | bl (b : Bool) : Dq H (.bl b) (.bool b)
  | int (i : Int) : Dq H (.int i) (.int i)
  | str (x : Str) : Dq H (.str x) (.str x)
  | lst {a : Addr} {xs : List V} {ds : List PyData} (h : SqL K H a xs) (r : DqAll H xs ds) : Dq H (.ref a) (.list ds)
  | tup {a : Addr} {xs : List V} {ds : List PyData} (h : SqT K H a xs) (r : DqAll H xs ds) : Dq H (.ref a) (.tuple ds)
  | dic {a : Addr} {kvs : List (Key × V)} {ds : List PyData} (h : H a = some (.dK kvs)) (r : DqAll H (kvs.map (·.2)) ds) : Dq H (.ref a) (.dict ((kvs.map fun kv => kD kv.1).zip ds))
inductive DqAll (H : Hp) : List V → List PyData → Prop
  | nil : DqAll H [] []
  | cons {x : V} {xs : List V} {d : PyData} {ds : List PyData} (h : Dq H x d) (r : DqAll H xs ds) : DqAll H (x :: xs) (d :: ds)
end
variable {K} in
mutual
theorem Dq.dp {H : Hp} : ∀ {x : V} {d : PyData}, Dq K H x d → d.hasDict = false → Dp K H x d
  | _, _, .non, _ => .non
  | _, _, .bl b, _ => .bl b
  | _, _, .int i, _ => .int i
  | _, _, .str x, _ => .str x
  | _, _, .lst h r, n => .lst h (r.dp n)
  | _, _, .tup h r, n => .tup h (r.dp n)
  | _, _, .dic h r, n => by cases n
theorem DqAll.dp {H : Hp} : ∀ {xs : List V} {ds : List PyData}, DqAll K H xs ds → PyData.hasDictAll ds = false → DpAll K H xs ds
  | _, _, .nil, _ => .nil
  | _, _, .cons (d := d) (ds := ds) h r, n => by
    have n : (d.hasDict || PyData.hasDictAll ds) = false := n
    rw [Bool.or_eq_false_iff] at n
    exact .cons (h.dp n.1) (r.dp n.2)
end
theorem shaped_nd {d : PyData} (h : SeqAt.shaped d = true) : d.hasDict = false := by
  unfold SeqAt.shaped at h
  rw [Bool.and_eq_true] at h
  exact PyData.hasDict_of_canLay d h.1
/-- == by values; Q of the answer -/
inductive REq (x y : V) (H : Hp) (Q : Bool → Prop) : Prop
  | scal (h : scal x y = true) (q : Q (decide (x = y)))
  | deep {d e : PyData} (hd : Dq K H x d) (he : Dq K H y e) (sd : SeqAt.shaped d = true) (se : SeqAt.shaped e = true) (q : Q (PyData.eqv d e))
def rEqB (x y : V) (H : Hp) (Q : Bool → Prop) : Prop := match x, y with
  | .int i, .int j => Q (decide (i = j))
  | .str i, .str j => Q (decide (i = j))
  | .bl i, .bl j => Q (decide (i = j))
  | x, y => REq K x y H Q
/-- in by values -/
inductive RIn (x : V) (b : Addr) (H : Hp) (Q : Bool → Prop) : Prop
  | flat {xs : List V} (h : SqL K H b xs ∨ SqT K H b xs) (fx : flatV x = true) (fs : xs.all flatV = true) (q : Q (inV x xs))
  | dict {o : Option V} (h : DGet H b x o) (q : Q o.isSome)
  | deep {d : PyData} {ds : List PyData} (hd : Dq K H x d) (he : Dq K H (.ref b) (.list ds)) (sd : SeqAt.shaped d = true) (se : SeqAt.shaped (.list ds) = true) (q : Q (ds.any fun z => PyData.eqv z d))
inductive RInS (x z : Str) (Q : Bool → Prop) : Prop
  | sign (c : Nat) (h : x = ⟨#[c]⟩) (q : Q (decide (c ∈ z.cps.toList)))
  | text (q : Q (!(Builtin.Str.occurrences z x 0 z.length 1).isEmpty))
def rInB (x y : V) (H : Hp) (Q : Bool → Prop) : Prop := match y with
  | .str z => (match x with
    | .str a => RInS a z Q
    | _ => False)
  | .ref b => RIn K x b H Q
  | _ => False
/-- is, where one side is None -/
def rIsB (x y : V) (Q : Bool → Prop) : Prop := (y = .non ∧ Q (decide (x = .non))) ∨ ∃ a b : Bool, x = .bl a ∧ y = .bl b ∧ Q (decide (a = b))
inductive RLtR (a b : Addr) (H : Hp) (Q : Bool → Prop) : Prop
  | tup {ns ms : List Int} (ha : SqT K H a (ns.map V.int)) (hb : SqT K H b (ms.map V.int)) (q : Q (HT.lexLt ns ms))
def rLtB (x y : V) (H : Hp) (Q : Bool → Prop) : Prop := match x, y with
  | .int i, .int j => Q (decide (i < j))
  | .str i, .str j => Q (decide (i.cps.toList < j.cps.toList))
  | .ref a, .ref b => RLtR K a b H Q
  | _, _ => False
def rLeB (x y : V) (Q : Bool → Prop) : Prop := match x, y with
  | .int i, .int j => Q (decide (i ≤ j))
  | .str i, .str j => Q (!decide (j.cps.toList < i.cps.toList))
  | _, _ => False
def rGtB (x y : V) (Q : Bool → Prop) : Prop := match x, y with
  | .int i, .int j => Q (decide (j < i))
  | .str i, .str j => Q (decide (j.cps.toList < i.cps.toList))
  | _, _ => False
def rGeB (x y : V) (Q : Bool → Prop) : Prop := match x, y with
  | .int i, .int j => Q (decide (j ≤ i))
  | .str i, .str j => Q (!decide (i.cps.toList < j.cps.toList))
  | _, _ => False
/-- a comparison by values; Q of the answer -/
def rCmpB : CmpOp → V → V → Hp → (Bool → Prop) → Prop
  | .Eq => fun x y H Q => rEqB K x y H Q
  | .NotEq => fun x y H Q => rEqB K x y H fun b => Q (!b)
  | .Lt => fun x y H Q => rLtB K x y H Q
  | .LtE => fun x y _ Q => rLeB x y Q
  | .Gt => fun x y _ Q => rGtB x y Q
  | .GtE => fun x y _ Q => rGeB x y Q
  | .In => fun x y H Q => rInB K x y H Q
  | .NotIn => fun x y H Q => rInB K x y H fun b => Q (!b)
  | .Is => fun x y _ Q => rIsB x y Q
  | .IsNot => fun x y _ Q => rIsB x y fun b => Q (!b)
def rCmp (op : CmpOp) : R2 := fun x y H Q => rCmpB K op x y H fun b => Q (.bl b) H

/-- a subscript by values -/
inductive RIxR (a : Addr) (y : V) (H : Hp) (Q : VK) : Prop
  | lst {xs : List V} {i : Int} {v : V} (h : SqL K H a xs) (e : y = .int i) (hv : atI xs i = some v) (q : Q v H)
  | tup {xs : List V} {i : Int} {v : V} (h : SqT K H a xs) (e : y = .int i) (hv : atI xs i = some v) (q : Q v H)
  | dict {v : V} (h : DGet H a y (some v)) (q : Q v H)
def rIxA : R2 := fun x y H Q => match x with
  | .str z => ∃ i c, y = .int i ∧ z.length ≤ sizeLine ∧ atI z.cps.toList i = some c ∧ Q (.str ⟨#[c]⟩) H
  | .ref a => RIxR K a y H Q
  | _ => False
/-- a slice by values -/
inductive RSlR (a : Addr) (lo hi : Option Int) (H : Hp) (Q : VK) : Prop
  | lst {xs : List V} (h : SqL K H a xs) (q : ∀ p, H p = none → Q (.ref p) (upd H p (.lst (cutV xs lo hi))))
  | tup {xs : List V} (h : SqT K H a xs) (q1 : HT.sIx xs.length 0 lo = 0 ∧ HT.sIx xs.length xs.length hi = xs.length → Q (.ref a) H)
      (q2 : ¬ (HT.sIx xs.length 0 lo = 0 ∧ HT.sIx xs.length xs.length hi = xs.length) → ∀ p, H p = none → Q (.ref p) (upd H p (.tup (cutV xs lo hi))))
def rSlAny : V → Option Int → Option Int → Hp → VK → Prop := fun x lo hi H Q => match x with
  | .str z => z.length ≤ sizeLine ∧ Q (.str (cutS z lo hi)) H
  | .ref a => RSlR K a lo hi H Q
  | _ => False
/-- o[i] = v by values -/
inductive RSetR (a : Addr) (y v : V) (H : Hp) (Q : Hp → Prop) : Prop
  | lst {xs : List V} {k : Int} {j : Nat} (h : H a = some (.lst xs)) (e : y = .int k) (hj : ixN xs.length k = some j) (q : Q (upd H a (.lst (xs.set j v))))
  | dict {H' : Hp} (h : DPut H a y v H') (q : Q H')
def rSetA : TSet := fun o i v H Q => match o with
  | .ref a => RSetR a i v H Q
  | _ => False
/-- truth by values -/
inductive RTru (a : Addr) (H : Hp) (Q : Bool → Prop) : Prop
  | lst {xs : List V} (h : SqL K H a xs) (q : Q (!xs.isEmpty))
  | tup {xs : List V} (h : SqT K H a xs) (q : Q (!xs.isEmpty))
  | dict {kvs : List (Key × V)} (h : H a = some (.dK kvs)) (q : Q (!kvs.isEmpty))
def rTru (x : V) (H : Hp) (Q : Bool → Prop) : Prop := match x with
  | .non => Q false
  | .bl b => Q b
  | .int i => Q (decide (i ≠ 0))
  | .str y => y.length ≤ sizeLine ∧ Q (decide (y.length ≠ 0))
  | .ref p => RTru K p H Q
  | _ => False
/-- the length by values -/
inductive RLen (a : Addr) (H : Hp) (Q : Nat → Prop) : Prop
  | lst {xs : List V} (h : SqL K H a xs) (q : Q xs.length)
  | tup {xs : List V} (h : SqT K H a xs) (q : Q xs.length)
  | dict {kvs : List (Key × V)} (h : H a = some (.dK kvs)) (q : Q kvs.length)
  | dicT {kvs : List (List Key × V)} (h : H a = some (.dT kvs)) (q : Q kvs.length)
/-- list(x) -/
inductive RLst (a : Addr) (H : Hp) (Q : VK) : Prop
  | lst {xs : List V} (h : SqL K H a xs) (q : ∀ p, H p = none → Q (.ref p) (upd H p (.lst xs)))
  | tup {xs : List V} (h : SqT K H a xs) (q : ∀ p, H p = none → Q (.ref p) (upd H p (.lst xs)))
  | dict {kvs : List (Key × V)} (h : Rd H a (.dK kvs)) (q : ∀ p, H p = none → Q (.ref p) (upd H p (.lst (kvs.map fun kv => kV kv.1))))
/-- tuple(x) -/
inductive RTup (a : Addr) (H : Hp) (Q : VK) : Prop
  | lst {xs : List V} (h : SqL K H a xs) (q : ∀ p, H p = none → Q (.ref p) (upd H p (.tup xs)))
  | tup {xs : List V} (h : SqT K H a xs) (q : Q (.ref a) H)
inductive RSrt (a : Addr) (H : Hp) (Q : VK) : Prop
  | dct {kvs : List (Key × V)} {ks : List Int} (h : Rd H a (.dK kvs)) (e : kvs.map (·.1) = ks.map Sum.inl) (hl : ks.length < 64) (q : ∀ (ys : List Int) (p : Addr), ys.Perm ks → ys.Pairwise (· ≤ ·) → H p = none → Q (.ref p) (upd H p (.lst (ys.map V.int))))
  | srt {ns : List Int} (h : SqL K H a (ns.map V.int)) (q : ∀ (ms : List Int) (p : Addr), ms.Perm ns → ms.Pairwise (· ≤ ·) → H p = none → Q (.ref p) (upd H p (.lst (ms.map V.int))))
def rBf : Bf → List V → Hp → VK → Prop
  | .len => fun vs H Q => match vs with
    | [.str s] => s.length ≤ sizeLine ∧ Q (.int s.length) H
    | [.ref a] => RLen K a H fun n => Q (.int n) H
    | _ => False
  | .int => fun vs H Q => match vs with
    | [.int i] => Q (.int i) H
    | [.bl b] => Q (.int (if b = true then 1 else 0)) H
    | [.str a] => ∃ n, PySem.intText? a = some n ∧ a.length ≤ 640 ∧ Q (.int n) H
    | _ => False
  | .str => fun vs H Q => match vs with
    | [.int i] => i.natAbs.log2 < 1920 ∧ Q (.str (toString i)) H
    | [.str a] => Q (.str a) H
    | _ => False
  | .abs => fun vs H Q => match vs with
    | [.int i] => Q (.int (if i < 0 then -i else i)) H
    | _ => False
  | .max => fun vs H Q => match vs with
    | [.int i, .int j] => Q (.int (if j > i then j else i)) H
    | [.ref a] => ∃ ns : List Int, SqL K H a (ns.map V.int) ∧ 0 < ns.length ∧ ∀ m, m ∈ ns → (∀ y, y ∈ ns → y ≤ m) → Q (.int m) H
    | _ => False
  | .min => fun vs H Q => match vs with
    | [.int i, .int j] => Q (.int (if j < i then j else i)) H
    | [.ref a] => (∃ ns : List Int, SqL K H a (ns.map V.int) ∧ 0 < ns.length ∧ ∀ m, m ∈ ns → (∀ y, y ∈ ns → m ≤ y) → Q (.int m) H) ∨ MX.rMinD K [.ref a] H Q
    | _ => False
  | .sum => fun vs H Q => match vs with
    | [.ref a] => ∃ ns : List Int, SqL K H a (ns.map V.int) ∧ Q (.int ns.sum) H
    | _ => False
  | .list => fun vs H Q => match vs with
    | [.ref a] => RLst K a H Q
    | _ => False
  | .tuple => fun vs H Q => match vs with
    | [.ref a] => RTup K a H Q
    | _ => False
  | .sorted => fun vs H Q => match vs with
    | [.ref a] => RSrt K a H Q
    | _ => False
  | .all => fun vs H Q => match vs with
    | [.ref a] => ∃ bs : List Bool, SqL K H a (bs.map V.bl) ∧ Q (.bl (bs.all id)) H
    | _ => False
  | .any => fun vs H Q => match vs with
    | [.ref a] => ∃ bs : List Bool, SqL K H a (bs.map V.bl) ∧ Q (.bl (bs.any id)) H
    | _ => False
  | .isi => fun vs H Q => match vs with
    | [x, c] => ∃ (t u : Value) (b : Bool), ClsV c u ∧ TyX K H x t ∧ PySem.W.kitOne K t u = some b ∧ Q (.bl b) H
    | _ => False
  | .repr => fun vs H Q => match vs with
    | [x] => ∃ d : PyData, Dq K H x d ∧ d.showable = true ∧ d.depth < 63 ∧ d.shown.length ≤ sizeLine ∧ Q (.str d.shown) H
    | _ => False
def rBm : Bm → V → List V → Hp → VK → Prop
  | .append => fun x vs H Q => match x, vs with
    | .ref a, [y] => ∃ xs, H a = some (.lst xs) ∧ xs.length < sizeLine ∧ Q .non (upd H a (.lst (xs ++ [y])))
    | _, _ => False
  | .pop => fun x vs H Q => match x, vs with
    | .ref a, [] => ∃ xs y, H a = some (.lst xs) ∧ xs[xs.length - 1]? = some y ∧ Q y (upd H a (.lst xs.dropLast))
    | .ref a, [.int i] => ∃ xs k y, H a = some (.lst xs) ∧ -(2 ^ 63) ≤ i ∧ i < 2 ^ 63 ∧ seqIndex? i xs.length = some k ∧ xs[k]? = some y ∧ Q y (upd H a (.lst (xs.eraseIdx k)))
    | _, _ => False
  | .extend => fun x vs H Q => match x, vs with
    | .ref a, [.ref b] => ∃ xs zs, H a = some (.lst xs) ∧ H b = some (.lst zs) ∧ xs.length + zs.length ≤ sizeLine ∧ Q .non (upd H a (.lst (xs ++ zs)))
    | _, _ => False
  | .insert => fun x vs H Q => match x, vs with
    | .ref a, [.int i, y] => ∃ xs, H a = some (.lst xs) ∧ xs.length < sizeLine ∧ 0 ≤ i ∧ i < 2 ^ 63 ∧ Q .non (upd H a (.lst (xs.take i.toNat ++ [y] ++ xs.drop i.toNat)))
    | _, _ => False
  | .find => fun x vs H Q => match x, vs with
    | .str a, [.str b] => Q (.int (Txt.find a b)) H
    | _, _ => False
  | .split => fun x vs H Q => match x, vs with
    | .str a, [.str b] => (b.length == 0) = false ∧ a.length + 2 ≤ sizeLine ∧ ∀ p, H p = none → Q (.ref p) (upd H p (.lst ((Txt.split a b).map V.str)))
    | _, _ => False
  | .lstrip => fun x vs H Q => match x, vs with
    | .str a, [.str b] => a.length ≤ sizeLine ∧ Q (.str (Txt.lstripChars a b)) H
    | _, _ => False
  | .indexS => fun x vs H Q => match x, vs with
    | .str a, [.str b] => ∃ k : Nat, Txt.index0 a b = some k ∧ Q (.int k) H
    | _, _ => False
  | .indexL => fun x vs H Q => match x, vs with
    | .ref a, [y] => ∃ (ys : List V) (j : Nat) (z : V), SqL K H a ys ∧ flatV y = true ∧ ys.all flatV = true ∧ ys[j]? = some z ∧ eqV z y = true ∧ (∀ (m : Nat) (z' : V), m < j → ys[m]? = some z' → eqV z' y = false) ∧ Q (.int j) H
    | _, _ => False
  | .join => fun x vs H Q => match x, vs with
    | .str a, [.ref p] => ∃ ys : List Str, (SqL K H p (ys.map V.str) ∨ SqT K H p (ys.map V.str)) ∧ (ys.map (·.length)).sum + ys.length * a.length ≤ 16777216 ∧ Q (.str (Txt.join a ys)) H
    | _, _ => False
end

/-! ### the reading -/
def tV (i : Nat) : TE := fun σ H Q => match σ[i]? with
  | some (some x) => Q x H
  | _ => False
def tIfV (ta : TE) (f : Bool → St → Hp → VK → Prop) : TE := fun σ H Q => ta σ H fun x H1 => match x with
  | .bl b => f b σ H1 Q
  | _ => False
def tCp (r : V → V → Hp → (Bool → Prop) → Prop) (ta tb : TE) : TT := fun σ H Q => ta σ H fun x H1 => tb σ H1 fun y H2 => r x y H2 fun b => Q b H2
/-- the exception that an except suite holds: its field; isinstance of it -/
def tEf (v : Ev) (i : Nat) (f : Str) : TE := fun σ H Q => ∃ (a dd : Addr) (j : Nat) (fs : List (Str × V)) (z : V), v.ex = some (a, .ref (v.cls j), some dd) ∧ (j, f) ∈ v.exs ∧ σ[i]? = some (some (.ref a)) ∧ H dd = some (.xd fs) ∧ fs.lookup f = some z ∧ Q z H
def tEi (v : Ev) (i : Nat) (c : Value) : TE := fun σ H Q => ∃ (a dd : Addr) (j : Nat) (f : Str) (fs : List (Str × V)) (b : Bool), v.ex = some (a, .ref (v.cls j), some dd) ∧ (j, f) ∈ v.exs ∧ σ[i]? = some (some (.ref a)) ∧ H dd = some (.xd fs) ∧ PySem.W.kitOne v.K (.ref (v.cls j)) c = some b ∧ Q (.bl b) H
def tCh3 (r r' r'' : V → V → Hp → (Bool → Prop) → Prop) (ta tb tc td : TE) : TT := fun σ H Q => ta σ H fun x H1 => tb σ H1 fun y H2 => r x y H2 fun b =>
  if b = true then tc σ H2 fun z H3 => r' y z H3 fun b' => if b' = true then td σ H3 fun u H4 => r'' z u H4 fun b2 => Q b2 H4 else Q false H3 else Q false H2
/-- a raise, by its class and the dict of its own -/
def tRai (C : Addr) (f : Str) (ta : TA) : St → Hp → XK → Prop := fun σ H Q => ta σ H fun vs H1 => ∃ y, vs = [y] ∧ ∀ dx, H1 dx = none → Q (.ref C) (some dx) (upd H1 dx (.xd [(f, y)]))
def tCh (r r' : V → V → Hp → (Bool → Prop) → Prop) (ta tb tc : TE) : TT := fun σ H Q => ta σ H fun x H1 => tb σ H1 fun y H2 => r x y H2 fun b =>
  if b = true then tc σ H2 fun z H3 => r' y z H3 fun b' => Q b' H3 else Q false H2
def tFl (C : Addr) (ta : TE) (f : Str) : TE := fun σ H Q => ta σ H fun x H1 => ∃ a dx fs v, x = .ref a ∧ H1 a = some (.ins C dx fs) ∧ fs.lookup f = some v ∧ Q v H1

def Xps.len : Xps → Nat
  | .nil => 0
  | .cons _ r => r.len + 1
mutual
def Xp.den (v : Ev) : Xp → WX → TE
  | .v i, _ => tV i
  | .c x, _ => tC x
  | .g i, _ => tC (v.gv i)
  | .ty n, _ => tC (.ty n)
  | .bin op a b, W => tOp (rBin v.K op) (a.den v W) (b.den v W)
  | .neg a, W => tUn (rU fun i => .int (-i)) (a.den v W)
  | .cmp op a b, W => tOp (rCmp v.K op) (a.den v W) (b.den v W)
  | .chn o1 o2 a b c, W => fun σ H Q => tCh (rCmpB v.K o1) (rCmpB v.K o2) (a.den v W) (b.den v W) (c.den v W) σ H fun k H1 => Q (.bl k) H1
  | .and a b, W => tIfV (a.den v W) fun k σ H Q => if k = true then b.den v W σ H Q else Q (.bl false) H
  | .or a b, W => tIfV (a.den v W) fun k σ H Q => if k = true then Q (.bl true) H else b.den v W σ H Q
  | .not a, W => tIfV (a.den v W) fun k _ H Q => Q (.bl (!k)) H
  | .ite t a b, W => tIf (t.den v W) (a.den v W) (b.den v W)
  | .tup es, W => tTup (es.den v W)
  | .lst es, W => tLst (es.den v W)
  | .dct0, _ => tDNewK
  | .dctT0, _ => tDNewT
  | .dct ks vs, W => tDisp ((ks.dens v W).zip (vs.dens v W))
  | .dget d k x, W => tDGet2 (d.den v W) (k.den v W) (x.den v W)
  | .lrg1 a, W => tLstRg (tRg1 (a.den v W))
  | .lrg2 a b, W => tLstRg (tRg2 (a.den v W) (b.den v W))
  | .chn3 o1 o2 o3 a b c d, W => fun σ H Q => tCh3 (rCmpB v.K o1) (rCmpB v.K o2) (rCmpB v.K o3) (a.den v W) (b.den v W) (c.den v W) (d.den v W) σ H fun k H1 => Q (.bl k) H1
  | .ef i f, _ => tEf v i f
  | .ei i C, _ => tEi v i (.ref (v.cls C))
  | .eib i n, _ => tEi v i (.type n)
  | .ix a i, W => tOp (rIxA v.K) (a.den v W) (i.den v W)
  | .sl a lo hi, W => tSl (rSlAny v.K) (a.den v W) (lo.den v W) (hi.den v W)
  | .rev a, W => tRevL v.K (a.den v W)
  | .fld C o f, W => tFl (v.cls C) (o.den v W) f
  | .call f es, W => fun σ H Q => es.den v W σ H fun vs H1 => v.sp f vs H1 Q fun c d H2 => W c d σ H2
  | .callk f es ks, W => fun σ H Q => es.den v W σ H fun vs H1 => ks.den v W σ H1 fun zs H2 => zs.length = ks.len ∧ v.sp f (vs ++ zs) H2 Q fun c d H3 => W c d σ H3
  | .bits a, W => tBits (a.den v W)
  | .mk C f es, W => fun σ H Q => es.den v W σ H fun vs H1 => ∀ x dx, H1 x = none → H1 dx = none → dx ≠ x →
      v.sp f (.ref x :: vs) (upd (upd H1 dx (.own x)) x (.ins (v.cls C) dx [])) (fun u H2 => u = .non ∧ Q (.ref x) H2) fun c d H2 => W c d σ H2
  | .meth m C nm o es, W => fun σ H Q => o.den v W σ H fun x H1 => ∃ a dx fs, x = .ref a ∧ H1 a = some (.ins (v.cls C) dx fs) ∧ fs.lookup nm = none ∧
      es.den v W σ H1 fun vs H2 => v.sp m (.ref a :: vs) H2 Q fun c d H3 => W c d σ H3
  | .bc b es, W => fun σ H Q => es.den v W σ H fun vs H1 => rBf v.K b vs H1 Q
  | .lenO m C es, W => fun σ H Q => es.den v W σ H fun vs H1 => ∃ a dx fs, vs = [V.ref a] ∧ H1 a = some (.ins (v.cls C) dx fs) ∧ v.sp m [V.ref a] H1 (fun y H2 => ∃ n : Int, y = .int n ∧ 0 ≤ n ∧ n < 2 ^ 63 ∧ Q (.int n) H2) fun _ _ _ => False
  | .bm m o es, W => fun σ H Q => o.den v W σ H fun x H1 => tyV v.K m.ty x H1 ∧ es.den v W σ H1 fun vs H2 => rBm v.K m x vs H2 Q
  | .mxd mx a d, W => tCKw (MX.rDf v.K mx) (tCons (a.den v W) tNil) (tCons (d.den v W) tNil)
  | .dc k el tg it ifs own, W => tDc (it.den v W) (tg.den v fun _ _ _ _ => False) (ifs.den v fun _ _ _ _ => False) (k.den v fun _ _ _ _ => False) (el.den v fun _ _ _ _ => False) own
  | .lc el tg it ifs own, W => tLc (it.den v W) (tg.den v fun _ _ _ _ => False) (ifs.den v fun _ _ _ _ => False) (el.den v fun _ _ _ _ => False) own
def Xps.dens (v : Ev) : Xps → WX → List TE
  | .nil, _ => []
  | .cons e r, W => e.den v W :: r.dens v W
def Xpo.den (v : Ev) : Xpo → WX → TO
  | .no, _ => tNoPart
  | .so e, W => tPart (e.den v W)
def Xps.den (v : Ev) : Xps → WX → TA
  | .nil, _ => tNil
  | .cons e r, W => tCons (e.den v W) (r.den v W)
def Tt.den (v : Ev) : Tt → WX → TT
  | .tr e, W => fun σ H Q => e.den v W σ H fun x H1 => rTru v.K x H1 fun b => Q b H1
  | .cmp op a b, W => tCp (rCmpB v.K op) (a.den v W) (b.den v W)
  | .chn o1 o2 a b c, W => tCh (rCmpB v.K o1) (rCmpB v.K o2) (a.den v W) (b.den v W) (c.den v W)
  | .chn3 o1 o2 o3 a b c d, W => tCh3 (rCmpB v.K o1) (rCmpB v.K o2) (rCmpB v.K o3) (a.den v W) (b.den v W) (c.den v W) (d.den v W)
  | .and a b, W => tAnd (a.den v W) (b.den v W)
  | .or a b, W => tOr (a.den v W) (b.den v W)
  | .not a, W => tNot (a.den v W)
def Tto.den (v : Ev) : Tto → WX → TT
  | .no, _ => tYes
  | .so t, W => t.den v W
def Sq.den (v : Ev) : Sq → WX → TI
  | .lst e, W => iList v.K (e.den v W)
  | .tup e, W => iTup v.K (e.den v W)
  | .txt e, W => iStr (e.den v W)
  | .rng1 a, W => iRng1 (tCons (a.den v W) tNil)
  | .rng2 a b, W => iRng2 (tCons (a.den v W) (tCons (b.den v W) tNil))
  | .rng3 a b c, W => iRng3 (tCons (a.den v W) (tCons (b.den v W) (tCons (c.den v W) tNil)))
  | .enm e, W => iEnum v.K (tCons (e.den v W) tNil)
  | .zip a b, W => RZ.iZipA v.K (tCons (a.den v W) (tCons (b.den v W) tNil))
  | .zipS a b, W => iZipS (tCons (a.den v W) (tCons (b.den v W) tNil))
  | .rvs e, W => RT.iRevA v.K (e.den v W)
  | .rvT e, W => RX.iRevT (e.den v W)
  | .rvr1 a, W => iRevR (tRg1 (a.den v W))
  | .rvr2 a b, W => iRevR (tRg2 (a.den v W) (b.den v W))
  | .any a b, W => fun σ H R => a.den v W σ H R ∨ b.den v W σ H R
  | .enmT e, W => iEnumT v.K (tCons (e.den v W) tNil)
def Tg.den (v : Ev) : Tg → WX → TG
  | .nm i, _ => gName i
  | .tup gs, W => fun x σ H Q => gTup v.K gs.len (gs.den v W) x σ H Q ∨ gLst v.K gs.len (gs.den v W) x σ H Q
  | .sub o i, W => gSub (o.den v W) (i.den v W) rSetA
def Tgs.den (v : Ev) : Tgs → WX → TGs
  | .nil, _ => gNil
  | .cons g r, W => gCons (g.den v W) (r.den v W)
def Tgs.len : Tgs → Nat
  | .nil => 0
  | .cons _ r => r.len + 1
end

/-- a op= b, by values -/
def rAug (K : PySem.W.Frag) : Operator → TIp
  | .Add => fun x y H Q => match x, y with
    | .int i, .int j => Q (.int (i + j)) H
    | .str a, .str b => a.length + b.length ≤ sizeLine ∧ Q (.str (a ++ b)) H
    | _, _ => False
  | .Sub => fun x y H Q => match x, y with
    | .int i, .int j => Q (.int (i - j)) H
    | _, _ => False
  | _ => fun _ _ _ _ => False
def tAugA (i : Nat) (te : TE) (ti : TIp) : TS := fun D σ H => match σ[i]? with
  | some (some x) => te σ H fun y H1 => ti x y H1 fun z H2 => D.nx (σ.set i (some z)) H2
  | _ => False
def tFlS (C : Addr) (ta tv : TE) (f : Str) : TS := fun D σ H => tv σ H fun y H1 => ta σ H1 fun x H2 => ∃ a dx fs, x = .ref a ∧ H2 a = some (.ins C dx fs) ∧ fs.length < 1000 ∧
  D.nx σ (upd H2 a (.ins C dx (putF f y fs)))
def tFlA (C : Addr) (ta tv : TE) (rd : V → V → Hp → VK → Prop) (f : Str) : TS := fun D σ H => ta σ H fun x H1 => ∃ a dx fs v, x = .ref a ∧ H1 a = some (.ins C dx fs) ∧ fs.lookup f = some v ∧
  tv σ H1 fun y H2 => rd v y H2 fun z H3 => ∃ gs, H3 a = some (.ins C dx gs) ∧ gs.length < 1000 ∧ D.nx σ (upd H3 a (.ins C dx (putF f z gs)))
mutual
def Sm.den (v : Ev) : Sm → WX → TS
  | .asg g e, W => tAsg (e.den v W) (g.den v W)
  | .asl i el tg it ifs own, W => tAsg (tLc (it.den v W) (tg.den v fun _ _ _ _ => False) (ifs.den v fun _ _ _ _ => False) (el.den v fun _ _ _ _ => False) own) (gName i)
  | .par i j a b, W => tPar i j (tCons (a.den v W) (tCons (b.den v W) tNil))
  | .par3 i j l a b c, W => tPar3 i j l (tCons (a.den v W) (tCons (b.den v W) (tCons (c.den v W) tNil)))
  | .fld C o f e, W => tFlS (v.cls C) (o.den v W) (e.den v W) f
  | .aug i op e, W => tAugA i (e.den v W) (rAug v.K op)
  | .augf C o f op e, W => tFlA (v.cls C) (o.den v W) (e.den v W) (rAug v.K op) f
  | .exp e, W => tDrop (e.den v W)
  | .ret e, W => tRet (e.den v W)
  | .retN, _ => tRetN
  | .pass, _ => tNext
  | .brk, _ => tBreak
  | .cnt, _ => tCont
  | .ite t a b, W => tIfS (t.den v W) (a.den v W) (b.den v W)
  | .whl t b, W => tWhile (t.den v W) (b.den v W)
  | .for_ tg it b, W => tFor (it.den v W) (tg.den v W) (b.den v W)
  | .rai C f es, W => fun _ σ H => tRai (v.cls C) f (es.den v W) σ H fun c d H1 => W c d σ H1
  | .tryA b C i s, W => fun D σ H => b.den v (wAs v.K (.ref (v.cls C)) i (fun a c d => s.den { v with ex := some (a, c, d) } fun _ _ _ _ => False) W D) D σ H
  | .tryO b C s, W => fun D σ H => b.den v (wOnly v.K (.ref (v.cls C)) (fun a c d => s.den { v with ex := some (a, c, d) } fun _ _ _ _ => False) W D) D σ H
  | .tryM b hs, W => fun D σ H => b.den v (wMany v.K W D (hs.den v)) D σ H
  | .ddel d k, W => sDDel (d.den v W) (k.den v W)
  | .never, _ => tNever
def Sms.den (v : Ev) : Sms → WX → TS
  | .nil, _ => tNext
  | .cons s r, W => tSeq (s.den v W) (r.den v W)
def Hds.den (v : Ev) : Hds → List (Value × (Addr → Value → Option Addr → TS))
  | .nil => []
  | .cons C s r => (.ref (v.cls C), fun a c d => s.den { v with ex := some (a, c, d) } fun _ _ _ _ => False) :: r.den v
end
end DI

/-! DI, part 2: the operations' readings are right. -/
namespace DI
open L2
open PySem.Spec
open PySem

section
variable {X : Cx} {K : PySem.W.Frag}

theorem opAdd (hK : K = X.K) : OpR X (binaryOp .Add) (rAdd K) := by
  subst hK
  intro pins s σ H x y v u Q I rx ry h
  unfold rAdd at h
  split at h
  · exact op_add pins s σ H _ _ v u Q I rx ry ⟨_, _, rfl, rfl, h⟩
  · exact op_add_str pins s σ H _ _ v u Q I rx ry ⟨_, _, rfl, rfl, h.1, h.2⟩
  · cases h with
    | lst ha hb hz q => exact op_cat pins s σ H _ _ v u Q I rx ry ⟨_, _, _, _, rfl, rfl, ha, hb, hz, q⟩
    | tup ha hb hz q1 q2 q3 => exact op_catA pins s σ H _ _ v u Q I rx ry ⟨_, _, _, _, rfl, rfl, ha, hb, hz, q1, q2, q3⟩
  · exact h.elim
theorem opSub : OpR X (binaryOp .Sub) rSub := by
  intro pins s σ H x y v u Q I rx ry h
  unfold rSub at h
  split at h
  · exact op_sub pins s σ H _ _ v u Q I rx ry ⟨_, _, rfl, rfl, h⟩
  · exact h.elim
theorem opMul : OpR X (binaryOp .Mult) rMul := by
  intro pins s σ H x y v u Q I rx ry h
  unfold rMul at h
  split at h
  · exact op_mul pins s σ H _ _ v u Q I rx ry ⟨_, _, rfl, rfl, h.1, h.2⟩
  · obtain ⟨t, rfl⟩ := rx
    obtain ⟨t', rfl⟩ := ry
    exact SB.mul h.1 fun t2 k => ⟨.str _, H, I.tok _, ⟨_, rfl⟩, h.2⟩
  · cases h with
    | lst ha h1 h2 hz q => exact op_rep pins s σ H _ _ v u Q I rx ry ⟨_, _, _, rfl, rfl, ha, h1, h2, hz, q⟩
  · exact h.elim
theorem opFdv : OpR X (binaryOp .FloorDiv) rFdv := by
  intro pins s σ H x y v u Q I rx ry h
  unfold rFdv at h
  split at h
  · exact op_fdivW pins s σ H _ _ v u Q I rx ry ⟨_, _, rfl, rfl, h.1, h.2⟩
  · exact h.elim
theorem opMod : OpR X (binaryOp .Mod) rMod := by
  intro pins s σ H x y v u Q I rx ry h
  unfold rMod at h
  split at h
  · exact op_mod pins s σ H _ _ v u Q I rx ry ⟨_, _, rfl, rfl, h.1, h.2⟩
  · exact h.elim
theorem opPow : OpR X (binaryOp .Pow) rPow := by
  intro pins s σ H x y v u Q I rx ry h
  unfold rPow at h
  split at h
  · exact op_pow pins s σ H _ _ v u Q I rx ry ⟨_, _, rfl, rfl, h.1, h.2⟩
  · exact h.elim
theorem opShl : OpR X (binaryOp .LShift) rShl := by
  intro pins s σ H x y v u Q I rx ry h
  unfold rShl at h
  split at h
  · rcases h with ⟨h1 | h1, h2⟩
    · exact op_shl pins s σ H _ _ v u Q I rx ry ⟨_, _, rfl, rfl, h1, h2⟩
    · exact op_shlW pins s σ H _ _ v u Q I rx ry ⟨_, _, rfl, rfl, h1, h2⟩
  · exact h.elim
theorem opShr : OpR X (binaryOp .RShift) rShr := by
  intro pins s σ H x y v u Q I rx ry h
  unfold rShr at h
  split at h
  · exact op_shr pins s σ H _ _ v u Q I rx ry ⟨_, _, rfl, rfl, h.1, h.2⟩
  · exact h.elim
theorem opAnd : OpR X (binaryOp .BitAnd) rAnd := by
  intro pins s σ H x y v u Q I rx ry h
  unfold rAnd at h
  split at h
  · exact op_and pins s σ H _ _ v u Q I rx ry ⟨_, _, rfl, rfl, h⟩
  · exact h.elim
theorem opOr : OpR X (binaryOp .BitOr) rOr := by
  intro pins s σ H x y v u Q I rx ry h
  unfold rOr at h
  split at h
  · exact op_or pins s σ H _ _ v u Q I rx ry ⟨_, _, rfl, rfl, h⟩
  · exact h.elim
theorem opXor : OpR X (binaryOp .BitXor) rXor := by
  intro pins s σ H x y v u Q I rx ry h
  unfold rXor at h
  split at h
  · exact op_xor pins s σ H _ _ v u Q I rx ry ⟨_, _, rfl, rfl, h⟩
  · exact h.elim
theorem opBin (hK : K = X.K) : ∀ op : Operator, OpR X (binaryOp op) (rBin K op)
  | .Add => opAdd hK
  | .Sub => opSub
  | .Mult => opMul
  | .FloorDiv => opFdv
  | .Mod => opMod
  | .Pow => opPow
  | .LShift => opShl
  | .RShift => opShr
  | .BitAnd => opAnd
  | .BitOr => opOr
  | .BitXor => opXor
  | .MatMult => fun _ _ _ _ _ _ _ _ _ _ _ _ h => h.elim
  | .Div => fun _ _ _ _ _ _ _ _ _ _ _ _ h => h.elim

/-- a comparison by values -/
def CmR (X : Cx) (op : CmpOp) (r : V → V → Hp → (Bool → Prop) → Prop) : Prop := OpR X (compareOp op) fun x y H Q => r x y H fun b => Q (.bl b) H
theorem cmEqG {op : CmpOp} {f : Bool → Bool} (hs : OpR X (compareOp op) fun x y H Q => scal x y = true ∧ Q (.bl (f (decide (x = y)))) H)
    (hd : OpR X (compareOp op) fun x y H Q => ∃ d e, Dp X.K H x d ∧ Dp X.K H y e ∧ SeqAt.shaped d = true ∧ SeqAt.shaped e = true ∧ Q (.bl (f (PyData.eqv d e))) H) (hK : K = X.K) :
    CmR X op fun x y H Q => rEqB K x y H fun b => Q (f b) := by
  subst hK
  intro pins s σ H x y v u Q I rx ry h
  have h : rEqB X.K x y H fun b => Q (.bl (f b)) H := h
  have ei : ∀ i j : Int, decide (V.int i = V.int j) = decide (i = j) := fun i j => by
    by_cases z : i = j
    · subst z; simp
    · rw [decide_eq_false z, decide_eq_false fun w => z (V.int.inj w)]
  have es : ∀ i j : Str, decide (V.str i = V.str j) = decide (i = j) := fun i j => by
    by_cases z : i = j
    · subst z; simp
    · rw [decide_eq_false z, decide_eq_false fun w => z (V.str.inj w)]
  have eb : ∀ i j : Bool, decide (V.bl i = V.bl j) = decide (i = j) := fun i j => by
    by_cases z : i = j
    · subst z; simp
    · rw [decide_eq_false z, decide_eq_false fun w => z (V.bl.inj w)]
  unfold rEqB at h
  split at h
  · exact hs pins s σ H _ _ v u Q I rx ry ⟨rfl, by rw [ei]; exact h⟩
  · exact hs pins s σ H _ _ v u Q I rx ry ⟨rfl, by rw [es]; exact h⟩
  · exact hs pins s σ H _ _ v u Q I rx ry ⟨rfl, by rw [eb]; exact h⟩
  · cases h with
    | scal h1 q => exact hs pins s σ H _ _ v u Q I rx ry ⟨h1, q⟩
    | deep h1 he sd se q => exact hd pins s σ H _ _ v u Q I rx ry ⟨_, _, h1.dp (shaped_nd sd), he.dp (shaped_nd se), sd, se, q⟩
theorem cmEq (hK : K = X.K) (hu : X.A.units + 64 < cLine) : CmR X .Eq fun x y H Q => rEqB K x y H Q := cmEqG (f := fun b => b) op_eq (op_eqD hu) hK
theorem cmNe (hK : K = X.K) (hu : X.A.units + 64 < cLine) : CmR X .NotEq fun x y H Q => rEqB K x y H fun b => Q (!b) := cmEqG (f := fun b => !b) op_ne (op_neD hu) hK
theorem cmLt (hK : K = X.K) (hu : X.A.units < cLine) : CmR X .Lt (rLtB K) := by
  subst hK
  intro pins s σ H x y v u Q I rx ry h
  unfold rLtB at h
  split at h
  · exact op_lt pins s σ H _ _ v u Q I rx ry ⟨_, _, rfl, rfl, h⟩
  · exact op_lt_str pins s σ H _ _ v u Q I rx ry ⟨_, _, rfl, rfl, h⟩
  · cases h with
    | tup ha hb q => exact op_ltT hu pins s σ H _ _ v u Q I rx ry ⟨_, _, _, _, rfl, rfl, ha, hb, q⟩
  · exact h.elim
theorem cmLe : CmR X .LtE fun x y _ Q => rLeB x y Q := by
  intro pins s σ H x y v u Q I rx ry h
  have h : rLeB x y _ := h
  unfold rLeB at h
  split at h
  · exact op_le pins s σ H _ _ v u Q I rx ry ⟨_, _, rfl, rfl, h⟩
  · exact op_le_str pins s σ H _ _ v u Q I rx ry ⟨_, _, rfl, rfl, h⟩
  · exact h.elim
theorem cmGt : CmR X .Gt fun x y _ Q => rGtB x y Q := by
  intro pins s σ H x y v u Q I rx ry h
  have h : rGtB x y _ := h
  unfold rGtB at h
  split at h
  · exact op_gt pins s σ H _ _ v u Q I rx ry ⟨_, _, rfl, rfl, h⟩
  · exact op_gt_str pins s σ H _ _ v u Q I rx ry ⟨_, _, rfl, rfl, h⟩
  · exact h.elim
theorem cmGe : CmR X .GtE fun x y _ Q => rGeB x y Q := by
  intro pins s σ H x y v u Q I rx ry h
  have h : rGeB x y _ := h
  unfold rGeB at h
  split at h
  · exact op_ge pins s σ H _ _ v u Q I rx ry ⟨_, _, rfl, rfl, h⟩
  · exact op_ge_str pins s σ H _ _ v u Q I rx ry ⟨_, _, rfl, rfl, h⟩
  · exact h.elim
theorem cmInG {op : CmpOp} {f : Bool → Bool} (h1 : OpR X (compareOp op) fun x y H Q => ∃ (c : Nat) (z : Str), x = .str ⟨#[c]⟩ ∧ y = .str z ∧ Q (.bl (f (decide (c ∈ z.cps.toList)))) H)
    (h2 : OpR X (compareOp op) fun x y H Q => ∃ i j, x = .str i ∧ y = .str j ∧ Q (.bl (f (!(Builtin.Str.occurrences j i 0 j.length 1).isEmpty))) H)
    (h3 : OpR X (compareOp op) fun x y H Q => ∃ p xs, y = .ref p ∧ (SqL X.K H p xs ∨ SqT X.K H p xs) ∧ flatV x = true ∧ xs.all flatV = true ∧ Q (.bl (f (inV x xs))) H)
    (h4 : OpR X (compareOp op) fun x y H Q => ∃ a o, y = .ref a ∧ DGet H a x o ∧ Q (.bl (f o.isSome)) H)
    (h5 : OpR X (compareOp op) fun x y H Q => ∃ d ds, Dp X.K H x d ∧ Dp X.K H y (.list ds) ∧ SeqAt.shaped d = true ∧ SeqAt.shaped (.list ds) = true ∧ Q (.bl (f (ds.any fun z => PyData.eqv z d))) H) (hK : K = X.K) :
    CmR X op fun x y H Q => rInB K x y H fun b => Q (f b) := by
  subst hK
  intro pins s σ H x y v u Q I rx ry h
  have h : rInB X.K x y H fun b => Q (.bl (f b)) H := h
  unfold rInB at h
  split at h
  · split at h
    · cases h with
      | sign c hc q => subst hc; exact h1 pins s σ H _ _ v u Q I rx ry ⟨_, _, rfl, rfl, q⟩
      | text q => exact h2 pins s σ H _ _ v u Q I rx ry ⟨_, _, rfl, rfl, q⟩
    · exact h.elim
  · cases h with
    | flat hs fx fs q => exact h3 pins s σ H _ _ v u Q I rx ry ⟨_, _, rfl, hs, fx, fs, q⟩
    | dict g q => exact h4 pins s σ H _ _ v u Q I rx ry ⟨_, _, rfl, g, q⟩
    | deep hd he sd se q => exact h5 pins s σ H _ _ v u Q I rx ry ⟨_, _, hd.dp (shaped_nd sd), he.dp (shaped_nd se), sd, se, q⟩
  · exact h.elim
theorem opInD (hu : X.A.units + 1 < cLine) : OpR X (compareOp .In) fun x y H Q => ∃ a o, y = .ref a ∧ DGet H a x o ∧ Q (.bl o.isSome) H := by
  intro pins s σ H x y v u Q I rx ry h
  obtain ⟨a, o, e, g, q⟩ := h
  subst e
  cases ry
  exact d_in hu I g rx fun s3 I3 => ⟨.bl _, H, I3, rfl, q⟩
theorem opNotInD (hu : X.A.units + 1 < cLine) : OpR X (compareOp .NotIn) fun x y H Q => ∃ a o, y = .ref a ∧ DGet H a x o ∧ Q (.bl (!o.isSome)) H := by
  intro pins s σ H x y v u Q I rx ry h
  obtain ⟨a, o, e, g, q⟩ := h
  subst e
  cases ry
  exact d_notIn hu I g rx fun s3 I3 => ⟨.bl _, H, I3, rfl, q⟩
theorem cmIn (hK : K = X.K) (hu : X.A.units + 65 < cLine) : CmR X .In fun x y H Q => rInB K x y H Q :=
  cmInG (f := fun b => b) op_in_sign op_in_str op_in_seq (opInD (Nat.lt_of_le_of_lt (Nat.add_le_add_left (by decide : 1 ≤ 65) _) hu)) (op_inD hu) hK
theorem cmNotIn (hK : K = X.K) (hu : X.A.units + 65 < cLine) : CmR X .NotIn fun x y H Q => rInB K x y H fun b => Q (!b) :=
  cmInG (f := fun b => !b) op_notIn_sign op_notin_str op_notIn_seq (opNotInD (Nat.lt_of_le_of_lt (Nat.add_le_add_left (by decide : 1 ≤ 65) _) hu)) (op_notInD hu) hK
theorem cmIs : CmR X .Is fun x y _ Q => rIsB x y Q := by
  intro pins s σ H x y v u Q I rx ry h
  rcases h with h | h
  · exact op_isN pins s σ H _ _ v u Q I rx ry ⟨h.1, h.2⟩
  · exact op_isBl pins s σ H _ _ v u Q I rx ry h
theorem cmIsNot : CmR X .IsNot fun x y _ Q => rIsB x y fun b => Q (!b) := by
  intro pins s σ H x y v u Q I rx ry h
  rcases h with h | h
  · exact op_notN pins s σ H _ _ v u Q I rx ry ⟨h.1, h.2⟩
  · exact op_notBl pins s σ H _ _ v u Q I rx ry h
theorem cmAll (hK : K = X.K) (hu : X.A.units + 65 < cLine) : ∀ op : CmpOp, CmR X op (rCmpB K op)
  | .Eq => cmEq hK (Nat.lt_of_le_of_lt (Nat.add_le_add_left (by decide : 64 ≤ 65) _) hu)
  | .NotEq => cmNe hK (Nat.lt_of_le_of_lt (Nat.add_le_add_left (by decide : 64 ≤ 65) _) hu)
  | .Lt => cmLt hK (Nat.lt_of_le_of_lt (Nat.le_add_right _ _) hu)
  | .LtE => cmLe
  | .Gt => cmGt
  | .GtE => cmGe
  | .In => cmIn hK hu
  | .NotIn => cmNotIn hK hu
  | .Is => cmIs
  | .IsNot => cmIsNot

theorem ixAll (hK : K = X.K) (hu : X.A.units + 1 < cLine) : IxR X (rIxA K) := by
  subst hK
  intro value slice pins s σ H x y v u Q I rx ry h hs
  unfold rIxA at h
  split at h
  · obtain ⟨i, c, rfl, hz, hc, q⟩ := h
    exact ix_str value slice pins s σ H _ _ v u Q I rx ry ⟨_, _, _, rfl, rfl, hz, hc, q⟩ hs
  · cases h with
    | lst hl e hv q => subst e; exact ix_list value slice pins s σ H _ _ v u Q I rx ry ⟨_, _, _, _, rfl, rfl, hl, hv, q⟩ hs
    | tup hl e hv q => subst e; exact ix_tup value slice pins s σ H _ _ v u Q I rx ry ⟨_, _, _, _, rfl, rfl, hl, hv, q⟩ hs
    | dict g q =>
      cases rx
      exact PyProof.Rows.tail_any (dict_typeIs I g) PySem.F.slot_dict_getitem.lookup (d_getItem hu I g ry fun w' s3 I3 rw' => ⟨_, H, I3, rw', q⟩) hs
  · exact h.elim
theorem slAll (hK : K = X.K) : SlR X (rSlAny K) := by
  subst hK
  intro pins s σ H x v vl vu lo hi sl Q I rx hsl pl pu h
  unfold rSlAny at h
  split at h
  · exact sl_str pins s σ H _ v vl vu lo hi sl Q I rx hsl pl pu ⟨_, rfl, h.1, h.2⟩
  · cases h with
    | lst hl q => exact sl_list pins s σ H _ v vl vu lo hi sl Q I rx hsl pl pu ⟨_, _, rfl, hl, q⟩
    | tup hl q1 q2 => exact sl_tupA pins s σ H _ v vl vu lo hi sl Q I rx hsl pl pu ⟨_, _, rfl, hl, q1, q2⟩
  · exact h.elim
theorem setAll (hu : X.A.units + 1 < cLine) : PSet X rSetA := by
  intro pins s σ H o i v ov iv u Q I ro ri rv h
  unfold rSetA at h
  split at h
  · cases h with
    | lst ha e hj q => subst e; exact set_list pins s σ H _ _ v ov iv u Q I ro ri rv ⟨_, _, _, _, rfl, rfl, ha, hj, q⟩
    | dict g q => exact set_dict hu pins s σ H _ _ v ov iv u Q I ro ri rv ⟨_, _, rfl, g, q⟩
  · exact h.elim
theorem truAll (hK : K = X.K) : TruR X fun x H Q => rTru K x H fun b => Q b H := by
  subst hK
  intro pins s σ H x v Q I rx h
  refine tru_ok pins s σ H x v Q I rx ?_
  unfold rTru at h
  split at h
  · exact ⟨false, rfl, h⟩
  · exact ⟨_, rfl, h⟩
  · rename_i i
    refine ⟨_, rfl, ?_⟩
    have e : (i != 0) = decide (i ≠ 0) := by
      by_cases z : i = 0
      · subst z; rfl
      · rw [decide_eq_true z]; exact bne_iff_ne.mpr z
    rw [e]; exact h
  · rename_i y
    refine ⟨_, ⟨h.1, rfl⟩, ?_⟩
    have e : ((y.length : Int) != 0) = decide (y.length ≠ 0) := by
      by_cases z : y.length = 0
      · rw [z]; rfl
      · rw [decide_eq_true z]; exact bne_iff_ne.mpr (by omega)
    rw [e]; exact h.2
  · cases h with
    | lst hl q => exact ⟨_, .inl ⟨_, hl, rfl⟩, q⟩
    | tup hl q => exact ⟨_, .inr (.inl ⟨_, hl, rfl⟩), q⟩
    | dict hl q => exact ⟨_, .inr (.inr ⟨_, hl, rfl⟩), q⟩
  · exact h.elim
theorem augAll (hK : K = X.K) : ∀ op : Operator, PIp X op (rAug K op) := by
  subst hK
  intro op pins s σ H x y v u Q I rx ry h
  unfold rAug at h
  split at h
  · split at h
    · exact iop_add pins s σ H _ _ v u Q I rx ry ⟨_, _, rfl, rfl, h⟩
    · exact iop_add_str pins s σ H _ _ v u Q I rx ry ⟨_, _, rfl, rfl, h.1, h.2⟩
    · exact h.elim
  · split at h
    · exact iop_sub pins s σ H _ _ v u Q I rx ry ⟨_, _, rfl, rfl, h⟩
    · exact h.elim
  · exact h.elim
end
end DI

/-! DI, part 3: built-in functions and methods. -/
namespace DI
open L2
open PySem.Spec
open PySem

section
variable {X : Cx} {K : PySem.W.Frag}
def Bf.name : Bf → Str
  | .len => "len"
  | .int => "int"
  | .str => "str"
  | .abs => "abs"
  | .max => "max"
  | .min => "min"
  | .sum => "sum"
  | .list => "list"
  | .tuple => "tuple"
  | .sorted => "sorted"
  | .all => "all"
  | .any => "any"
  | .isi => "isinstance"
  | .repr => "repr"
def Bf.val : Bf → Value
  | .len => .builtin "len"
  | .int => .type "int"
  | .str => .type "str"
  | .abs => .builtin "abs"
  | .max => .builtin "max"
  | .min => .builtin "min"
  | .sum => .builtin "sum"
  | .list => .type "list"
  | .tuple => .type "tuple"
  | .sorted => .builtin "sorted"
  | .all => .builtin "all"
  | .any => .builtin "any"
  | .isi => .builtin "isinstance"
  | .repr => .builtin "repr"
theorem Bf.boot : ∀ b : Bf, bootBuiltins b.name = some b.val
  | .len => by decide +kernel
  | .int => by decide +kernel
  | .str => by decide +kernel
  | .abs => by decide +kernel
  | .max => by decide +kernel
  | .min => by decide +kernel
  | .sum => by decide +kernel
  | .list => by decide +kernel
  | .tuple => by decide +kernel
  | .sorted => by decide +kernel
  | .all => by decide +kernel
  | .any => by decide +kernel
  | .isi => by decide +kernel
  | .repr => by decide +kernel
theorem Bf.notName (b : Bf) : b.name ≠ "__name__" := by cases b <;> decide +kernel
theorem Bf.notDbg (b : Bf) : (b.name == ("__debug__" : Str)) = false := by cases b <;> decide +kernel
/-- the modules' dict stands in the heap -/
def SysM (h : Heap) : Prop := ∃ o es ep, h.get? sysModules = some o ∧ o.data = .dict es ep
section
variable {pins : List (Addr × Obj)} {σ : L2.St} {H : Hp} {s : Shared}
theorem sys_at (I : L2.Inv X pins σ H s) (sm : SysM X.base) : ∃ o es ep, s.heap.get? sysModules = some o ∧ o.data = .dict es ep := by
  obtain ⟨o, es, ep, h, d⟩ := sm
  obtain ⟨h0, h1⟩ := I.ok.bs _ _ h
  have hn := I.ok.noex _ _ h
  by_cases hf : sysModules ∈ X.fs
  · obtain ⟨sl, e⟩ := I.base.slot _ _ h0 h1 hf hn
    exact ⟨_, es, ep, e, d⟩
  · exact ⟨o, es, ep, I.base.keep _ _ h0 h1 hf hn, d⟩
theorem keyIs_reads {h : Heap} {k : Key} {u : Value} (e : keyIs k u = true) : Reads h u (kD k) [] := by
  cases k with
  | inl i => cases u with
    | int j t =>
      have : (j == i) = true := e
      have : j = i := by simpa using this
      subst this
      exact .int _ _
    | _ => cases e
  | inr x => cases u with
    | str y t =>
      have : (y == x) = true := e
      have : y = x := by simpa using this
      subst this
      exact .str _ _
    | _ => cases e
theorem pairs_reads {prog : Program} {w : World} {h : Heap} : ∀ {es : List DictEntry} {vs : List (Key × Value)} {kvs : List (Key × V)}, Pairs (mixKind prog w) es vs → KV kvs vs → ReadsAll h (es.map (·.key)) (kvs.map fun kv => kD kv.1) [] ∧ Vals (kvs.map (·.2)) (es.map (·.val))
  | _, _, _, .nil, .nil => ⟨.nil, .nil⟩
  | _, _, _, .cons (e := e) (kv := q) hk hv r, .cons hp rp => by
    obtain ⟨i1, i2⟩ := pairs_reads (h := h) r rp
    obtain ⟨e1, e2⟩ := hp
    refine ⟨?_, ?_⟩
    · have := keyIs_reads (h := h) (k := q.1) hk
      rw [← e1] at this
      exact .cons this i1
    · rw [← hv] at e2
      exact .cons e2 i2
theorem zip_fst : ∀ {a b : List PyData}, a.length = b.length → (a.zip b).map (·.1) = a
  | [], [], _ => rfl
  | x :: xs, y :: ys, h => by
    rw [List.zip_cons_cons, List.map_cons, zip_fst (by simpa using h)]
  | [], _ :: _, h => by cases h
  | _ :: _, [], h => by cases h
theorem zip_snd : ∀ {a b : List PyData}, a.length = b.length → (a.zip b).map (·.2) = b
  | [], [], _ => rfl
  | x :: xs, y :: ys, h => by
    rw [List.zip_cons_cons, List.map_cons, zip_snd (by simpa using h)]
  | [], _ :: _, h => by cases h
  | _ :: _, [], h => by cases h
theorem DqAll.len {H : Hp} : ∀ {xs : List V} {ds : List PyData}, DqAll K H xs ds → xs.length = ds.length
  | _, _, .nil => rfl
  | _, _, .cons _ r => by rw [List.length_cons, List.length_cons, r.len]
mutual
theorem Dq.reads (I : L2.Inv X pins σ H s) (sm : SysM X.base) : ∀ {v : V} {d : PyData} (u : Value), Dq X.K H v d → RelV v u → ∃ as, Reads s.heap u d as ∧ sysModules ∉ as
  | _, _, _, .non, r => by cases r; exact ⟨[], .none, by simp⟩
  | _, _, _, .bl b, r => by cases r; exact ⟨[], .bool b, by simp⟩
  | _, _, _, .int i, r => by obtain ⟨t, rfl⟩ := r; exact ⟨[], .int i t, by simp⟩
  | _, _, _, .str x, r => by obtain ⟨t, rfl⟩ := r; exact ⟨[], .str x t, by simp⟩
  | _, _, _, .lst (a := a) h ra, r => by
    cases r
    obtain ⟨its, rv, ⟨o, n, ho, hc, _, hd⟩, _⟩ := I.list h
    obtain ⟨as, rd, na⟩ := DqAll.reads I sm _ ra rv
    obtain ⟨o1, es, ep, h1, d1⟩ := sys_at I sm
    refine ⟨a :: as, .list ho hc hd (by simpa using rd), ?_⟩
    rw [List.mem_cons]
    rintro (e | e)
    · rw [e, ho] at h1
      cases h1
      rw [hd] at d1
      cases d1
    · exact na e
  | _, _, _, .tup (a := a) h ra, r => by
    cases r
    obtain ⟨its, rv, ⟨o, ho, hc, n, hd⟩, _⟩ := I.tuple h
    obtain ⟨as, rd, na⟩ := DqAll.reads I sm _ ra rv
    exact ⟨as, .tuple ho hc hd (by simpa using rd), na⟩
  | _, _, _, .dic (a := a) (kvs := kvs) (ds := ds) h ra, r => by
    cases r
    have ok : ObjOk X.prog X.w H s.heap a (.dK kvs) := I.hok a _ h
    unfold ObjOk at ok
    obtain ⟨_, hs, vs, kv, o, es, ep, ho, hex, hd, _, hp, _⟩ := ok
    obtain ⟨rk, rv⟩ := pairs_reads (h := s.heap) hp kv
    obtain ⟨as, rd, na⟩ := DqAll.reads I sm _ ra rv
    have hl : (kvs.map fun kv => kD kv.1).length = ds.length := by rw [List.length_map, ← ra.len, List.length_map]
    refine ⟨a :: [] ++ as, .dict ho hex.1 hd (by rw [zip_fst hl]; exact rk) (by rw [zip_snd hl]; exact rd), ?_⟩
    intro e
    rcases List.mem_append.mp e with e | e
    · simp only [List.mem_singleton] at e
      rw [← e] at hs
      cases hs
    · exact na e
theorem DqAll.reads (I : L2.Inv X pins σ H s) (sm : SysM X.base) : ∀ {vs : List V} {ds : List PyData} (us : List Value), DqAll X.K H vs ds → Vals vs us → ∃ as, ReadsAll s.heap us ds as ∧ sysModules ∉ as
  | _, _, _, .nil, r => by cases r; exact ⟨[], .nil, by simp⟩
  | _, _, _, .cons h ra, r => by
    cases r with
    | cons r1 r2 =>
    obtain ⟨as, rd, na⟩ := Dq.reads I sm _ h r1
    obtain ⟨bs, rds, nb⟩ := DqAll.reads I sm _ ra r2
    exact ⟨as ++ bs, .cons rd rds, fun e => (List.mem_append.mp e).elim na nb⟩
end
end
theorem crRepr (sm : SysM X.base) (hg : X.A.guards = some []) (hu : X.A.units + 64 < cLine) : CallR X (.builtin "repr") fun vs H Q => ∃ x d, vs = [x] ∧ Dq X.K H x d ∧ d.showable = true ∧ d.depth < 63 ∧ d.shown.length ≤ sizeLine ∧ Q (.str d.shown) H := by
  intro pins s σ H xs us Q I r h
  obtain ⟨x, d, rfl, hd, hs, hdp, hz, q⟩ := h
  obtain ⟨u, rfl, ru⟩ := vals1 r
  obtain ⟨as, rd, na⟩ := Dq.reads I sm u hd ru
  cases hd with
  | non => cases ru; exact PySem.P.repr_of_none ⟨.str _, H, I.tok _, ⟨_, rfl⟩, q⟩
  | bl b => cases ru; exact PySem.P.repr_of_bool ⟨.str _, H, I.tok _, ⟨_, rfl⟩, q⟩
  | int i =>
    obtain ⟨t, rfl⟩ := ru
    exact PySem.P.repr_of_int (of_decide_eq_true hs) ⟨.str _, H, I.tok _, ⟨_, rfl⟩, q⟩
  | str z =>
    obtain ⟨t, rfl⟩ := ru
    exact PySem.P.repr_of_str ⟨.str _, H, I.tok _, ⟨_, rfl⟩, q⟩ hz
  | @lst a xs ds h1 h2 =>
    cases ru
    exact repr_of_reads' rd hs (fun _ => na) hg (by omega) (fun _ _ e => e) (fun h' u tk hk => ⟨.str _, H, I.kept hk, ⟨_, rfl⟩, q⟩) hz
  | @tup a xs ds h1 h2 =>
    cases ru
    exact repr_of_reads' rd hs (fun _ => na) hg (by omega) (fun _ _ e => e) (fun h' u tk hk => ⟨.str _, H, I.kept hk, ⟨_, rfl⟩, q⟩) hz
  | @dic a kvs ds h1 h2 =>
    cases ru
    exact repr_of_reads' rd hs (fun _ => na) hg (by omega) (fun _ _ e => e) (fun h' u tk hk => ⟨.str _, H, I.kept hk, ⟨_, rfl⟩, q⟩) hz
/-- isinstance asks nothing of the place where it is called -/
theorem isiOk (hK : K = X.K) : CallR X Bf.isi.val (rBf K .isi) := by
  subst hK
  intro pins s σ H vs us Q I r h
  dsimp only [rBf] at h
  split at h
  · obtain ⟨t, u, b, h1, h2, h3, q⟩ := h
    exact call_isi pins s σ H _ us Q I r ⟨_, _, t, u, b, rfl, h1, h2, h3, q⟩
  · exact h.elim
theorem bfOk (sm : SysM X.base) (hK : K = X.K) (hc : X.calm = true) (hg : X.A.guards = some []) (hu : X.A.units + 65 < cLine) : ∀ b : Bf, CallR X b.val (rBf K b)
  | .len => by
    subst hK
    intro pins s σ H vs us Q I r h
    dsimp only [rBf] at h
    split at h
    · exact call_len_str pins s σ H _ us Q I r ⟨_, rfl, h.1, h.2⟩
    · cases h with
      | lst hl q => exact call_len_seq pins s σ H _ us Q I r ⟨_, _, rfl, .inl hl, q⟩
      | tup hl q => exact call_len_seq pins s σ H _ us Q I r ⟨_, _, rfl, .inr hl, q⟩
      | dict hl q => exact call_lenD pins s σ H _ us Q I r ⟨_, _, rfl, hl, q⟩
      | dicT hl q => exact call_len_dT pins s σ H _ us Q I r ⟨_, _, rfl, hl, q⟩
    · exact h.elim
  | .int => by
    intro pins s σ H vs us Q I r h
    dsimp only [rBf] at h
    split at h
    · exact call_int1 pins s σ H _ us Q I r (.inl ⟨_, rfl, h⟩)
    · exact call_int1 pins s σ H _ us Q I r (.inr ⟨_, rfl, h⟩)
    · obtain ⟨n, e, hz, q⟩ := h
      exact call_int_str pins s σ H _ us Q I r ⟨_, _, rfl, e, hz, q⟩
    · exact h.elim
  | .str => by
    intro pins s σ H vs us Q I r h
    dsimp only [rBf] at h
    split at h
    · exact call_str_int pins s σ H _ us Q I r ⟨_, rfl, h.1, h.2⟩
    · exact SkE.call_str_str pins s σ H _ us Q I r ⟨_, rfl, h⟩
    · exact h.elim
  | .abs => by
    intro pins s σ H vs us Q I r h
    dsimp only [rBf] at h
    split at h
    · exact call_abs pins s σ H _ us Q I r ⟨_, rfl, h⟩
    · exact h.elim
  | .max => by
    subst hK
    intro pins s σ H vs us Q I r h
    dsimp only [rBf] at h
    split at h
    · exact call_max2 hc pins s σ H _ us Q I r ⟨_, _, rfl, h⟩
    · obtain ⟨ns, hl, hz, q⟩ := h
      exact cr_max hc pins s σ H _ us Q I r ⟨_, _, rfl, hl, hz, q⟩
    · exact h.elim
  | .min => by
    subst hK
    intro pins s σ H vs us Q I r h
    dsimp only [rBf] at h
    split at h
    · exact call_min2 hc pins s σ H _ us Q I r ⟨_, _, rfl, h⟩
    · rcases h with ⟨ns, hl, hz, q⟩ | h
      · exact cr_min hc pins s σ H _ us Q I r ⟨_, _, rfl, hl, hz, q⟩
      · exact MX.cr_minD hc hu pins s σ H _ us Q I r h
    · exact h.elim
  | .sum => by
    subst hK
    intro pins s σ H vs us Q I r h
    dsimp only [rBf] at h
    split at h
    · obtain ⟨ns, hl, q⟩ := h
      exact cr_sum hc pins s σ H _ us Q I r ⟨_, _, rfl, hl, q⟩
    · exact h.elim
  | .list => by
    subst hK
    intro pins s σ H vs us Q I r h
    dsimp only [rBf] at h
    split at h
    · cases h with
      | lst hl q => exact call_list_of pins s σ H _ us Q I r ⟨_, _, rfl, .inl hl, q⟩
      | tup hl q => exact call_list_of pins s σ H _ us Q I r ⟨_, _, rfl, .inr hl, q⟩
      | dict hl q => exact call_listD hc pins s σ H _ us Q I r ⟨_, _, rfl, hl, q⟩
    · exact h.elim
  | .tuple => by
    subst hK
    intro pins s σ H vs us Q I r h
    dsimp only [rBf] at h
    split at h
    · cases h with
      | lst hl q => exact call_tuple_of pins s σ H _ us Q I r ⟨_, _, rfl, .inl ⟨hl, q⟩⟩
      | tup hl q => exact call_tuple_of pins s σ H _ us Q I r ⟨_, _, rfl, .inr ⟨hl, q⟩⟩
    · exact h.elim
  | .sorted => by
    subst hK
    intro pins s σ H vs us Q I r h
    dsimp only [rBf] at h
    split at h
    · cases h with
      | dct hl e hz q => exact call_sortedDI hc pins s σ H _ us Q I r ⟨_, _, _, rfl, hl, e, hz, q⟩
      | srt hl q => exact cr_sortedI pins s σ H _ us Q I r ⟨_, _, rfl, hl, q⟩
    · exact h.elim
  | .all => by
    subst hK
    intro pins s σ H vs us Q I r h
    dsimp only [rBf] at h
    split at h
    · obtain ⟨bs, hl, q⟩ := h
      exact cr_all hc pins s σ H _ us Q I r ⟨_, _, rfl, hl, q⟩
    · exact h.elim
  | .any => by
    subst hK
    intro pins s σ H vs us Q I r h
    dsimp only [rBf] at h
    split at h
    · obtain ⟨bs, hl, q⟩ := h
      exact cr_any hc pins s σ H _ us Q I r ⟨_, _, rfl, hl, q⟩
    · exact h.elim
  | .isi => by
    subst hK
    intro pins s σ H vs us Q I r h
    dsimp only [rBf] at h
    split at h
    · obtain ⟨t, u, b, h1, h2, h3, q⟩ := h
      exact call_isi pins s σ H _ us Q I r ⟨_, _, t, u, b, rfl, h1, h2, h3, q⟩
    · exact h.elim
  | .repr => by
    subst hK
    intro pins s σ H vs us Q I r h
    dsimp only [rBf] at h
    split at h
    · obtain ⟨d, h1, h2, h4, h5, q⟩ := h
      exact crRepr sm hg (Nat.lt_of_le_of_lt (Nat.add_le_add_left (by decide : 64 ≤ 65) _) hu) pins s σ H _ us Q I r ⟨_, d, rfl, h1, h2, h4, h5, q⟩
    · exact h.elim

def Bm.name : Bm → Str
  | .append => "append"
  | .pop => "pop"
  | .extend => "extend"
  | .insert => "insert"
  | .join => "join"
  | .find => "find"
  | .split => "split"
  | .lstrip => "lstrip"
  | .indexS => "index"
  | .indexL => "index"
def Bm.id : Bm → String
  | .append => "list.append"
  | .pop => "list.pop"
  | .extend => "list.extend"
  | .insert => "list.insert"
  | .join => "str.join"
  | .find => "str.find"
  | .split => "str.split"
  | .lstrip => "str.lstrip"
  | .indexS => "str.index"
  | .indexL => "list.index"
theorem Bm.plain : ∀ m : Bm, PlainAttrs m.ty
  | .append => F.plainAttrs_list
  | .pop => F.plainAttrs_list
  | .extend => F.plainAttrs_list
  | .insert => F.plainAttrs_list
  | .join => F.plainAttrs_str
  | .find => F.plainAttrs_str
  | .split => F.plainAttrs_str
  | .lstrip => F.plainAttrs_str
  | .indexS => F.plainAttrs_str
  | .indexL => F.plainAttrs_list
theorem Bm.slot : ∀ m : Bm, Slot m.ty m.name m.id
  | .append => F.slot_list_append
  | .pop => F.slot_list_pop
  | .extend => F.slot_list_extend
  | .insert => F.slot_list_insert
  | .join => F.slot_str_join
  | .find => F.slot_str_find
  | .split => F.slot_str_split
  | .lstrip => F.slot_str_lstrip
  | .indexS => F.slot_str_index
  | .indexL => F.slot_list_index
theorem Bm.desc : ∀ m : Bm, typeOf (.builtin m.id) = pure (.type "method_descriptor")
  | .append => F.type_list_append
  | .pop => F.type_list_pop
  | .extend => F.type_list_extend
  | .insert => F.type_list_insert
  | .join => F.type_str_join
  | .find => F.type_str_find
  | .split => F.type_str_split
  | .lstrip => F.type_str_lstrip
  | .indexS => F.type_str_index
  | .indexL => F.type_list_index
theorem ty_lst {H : Hp} {a : Addr} {xs : List V} (h : H a = some (.lst xs)) : tyV K "list" (.ref a) H := .inl ⟨rfl, xs, .inl (.inl h)⟩
theorem bmOk (hK : K = X.K) (hc : X.calm = true) : ∀ m : Bm, MtR X m.id (rBm K m)
  | .split => by
    intro pins s σ H x xs v us Q I rx r h
    dsimp only [rBm] at h
    split at h
    · obtain ⟨h1, h2, q⟩ := h
      exact mt_split pins s σ H _ _ v us Q I rx r ⟨_, _, rfl, rfl, h1, h2, q⟩
    · exact h.elim
  | .lstrip => by
    intro pins s σ H x xs v us Q I rx r h
    dsimp only [rBm] at h
    split at h
    · exact mt_lstripChars pins s σ H _ _ v us Q I rx r ⟨_, _, rfl, rfl, h.1, h.2⟩
    · exact h.elim
  | .indexS => by
    intro pins s σ H x xs v us Q I rx r h
    dsimp only [rBm] at h
    split at h
    · obtain ⟨k, e, q⟩ := h
      exact mt_indexX hc (takes0 (X := X)) pins s σ H _ _ v us Q I rx r ⟨_, _, rfl, rfl, fun j ej => (by rw [e] at ej; cases ej; exact q), fun z => by rw [e] at z; cases z⟩
    · exact h.elim
  | .indexL => by
    subst hK
    intro pins s σ H x xs v us Q I rx r h
    dsimp only [rBm] at h
    split at h
    · obtain ⟨ys, j, z, h1, h2, h3, h4, h5, h6, q⟩ := h
      exact mt_index pins s σ H _ _ v us Q I rx r ⟨_, ys, _, j, z, rfl, rfl, h1, h2, h3, h4, h5, h6, q⟩
    · exact h.elim
  | .append => by
    intro pins s σ H x xs v us Q I rx r h
    dsimp only [rBm] at h
    split at h
    · obtain ⟨ys, h1, h2, q⟩ := h
      exact mt_append pins s σ H _ _ v us Q I rx r ⟨_, _, _, rfl, rfl, h1, h2, q⟩
    · exact h.elim
  | .pop => by
    intro pins s σ H x xs v us Q I rx r h
    dsimp only [rBm] at h
    split at h
    · obtain ⟨ys, y, h1, h2, q⟩ := h
      exact mt_pop pins s σ H _ _ v us Q I rx r ⟨_, _, _, rfl, rfl, h1, h2, q⟩
    · obtain ⟨ys, k, y, h1, h2, h3, h4, h5, q⟩ := h
      exact mt_popAt pins s σ H _ _ v us Q I rx r ⟨_, _, _, _, _, rfl, rfl, h1, h2, h3, h4, h5, q⟩
    · exact h.elim
  | .extend => by
    intro pins s σ H x xs v us Q I rx r h
    dsimp only [rBm] at h
    split at h
    · obtain ⟨ys, zs, h1, h2, h3, q⟩ := h
      exact mt_extend pins s σ H _ _ v us Q I rx r ⟨_, _, _, _, rfl, rfl, h1, h2, h3, q⟩
    · exact h.elim
  | .insert => by
    intro pins s σ H x xs v us Q I rx r h
    dsimp only [rBm] at h
    split at h
    · obtain ⟨ys, h1, h2, h3, h4, q⟩ := h
      exact mt_insert pins s σ H _ _ v us Q I rx r ⟨_, _, _, _, rfl, rfl, h1, h2, h3, h4, q⟩
    · exact h.elim
  | .find => by
    intro pins s σ H x xs v us Q I rx r h
    dsimp only [rBm] at h
    split at h
    · exact mt_find pins s σ H _ _ v us Q I rx r ⟨_, _, rfl, rfl, h⟩
    · exact h.elim
  | .join => by
    subst hK
    intro pins s σ H x xs v us Q I rx r h
    dsimp only [rBm] at h
    split at h
    · obtain ⟨ys, h1, h2, q⟩ := h
      exact mt_join pins s σ H _ _ v us Q I rx r ⟨_, _, ys, rfl, rfl, h1, h2, q⟩
    · exact h.elim
end
end DI

/-! DI, part 4: the promise of a def with the room for repr too; its call. -/
namespace DI
open L2
open PySem.Spec
open PyProof.Rows hiding St
open PySem

structure RoomG (k : Nat) (A : Around) : Prop where
  r : Room k A
  g : A.guards = some []
theorem RoomG.mono {j k : Nat} {A : Around} (r : RoomG k A) (h : j ≤ k) : RoomG j A := ⟨r.r.mono h, r.g⟩
theorem RoomG.deeper {k : Nat} {A : Around} (r : RoomG (k + 1) A) (env : Env) : RoomG k (A.deeper env) := ⟨r.r.deeper env, r.g⟩
theorem RoomG.in1 {k : Nat} {A : Around} (r : RoomG (k + 1) A) : RoomG k A.in1 := ⟨r.r.in1, r.g⟩
theorem RoomG.make {k : Nat} {A : Around} (r : RoomG (k + 1) A) (C : Addr) (us : List Value) (kw : List (Str × Value)) : RoomG k (A.under (.builtin "type.__call__" ⟨.ref C :: us, kw⟩)) := by
  refine ⟨r.r.make C us kw, ?_⟩
  have h := r.g
  simpa [Around.under, Code.guards, Code.isGuard, guardIds, pushGuards] using h

/-- a def's promise: FnOk of the hand layer, with the guards told -/
structure FnG (P : Program) (w : World) (K : PySem.W.Frag) (mg : Str → Option Value) (base : Heap) (k : Nat) (f : Addr) (fd : FuncData) (ps : List Str) (sp : Sp) : Prop where
  len : ∀ vs H Q E, sp vs H Q E → vs.length = ps.length
  run : ∀ (A : Around) (outer : List Env) (s : Shared) (H : Hp) (args : Args) (us : List Value) (vs : List V) (Q : VK) (E : XK),
    RoomG k A → Env0 P w K mg base A outer s H → BindsTo s fd args (ps.zip us) → Vals vs us → sp vs H Q E →
      codeAny (model P w) A (.call (.ref f) args) (CR (CX P w) outer P w H s Q E) s

/-- how a def binds: the last parameters, ks, by name -/
def Bnd (K : PySem.W.Frag) (fd : FuncData) (ps ks : List Str) : Prop :=
  ∀ (s : Shared) (us ws : List Value), K.In s.heap → ws.length = ks.length → (us ++ ws).length = ps.length → BindsTo s fd ⟨us, ks.zip ws⟩ (ps.zip (us ++ ws))
theorem Bnd.plain {K : PySem.W.Frag} {fd : FuncData} {ps : List Str} (h : Bnd K fd ps []) : Binds K fd ps [] := fun s us hk hl => h s us [] hk rfl hl
section
variable {X : Cx} {k : Nat} {f C : Addr} {fd : FuncData} {ps : List Str} {sp : Sp} {W : WX} {x m : Str} {p pos apos : Pos} {e o : Expr} {es : List Expr} {ta : TE} {t : TA}

theorem runG {pins : List (Addr × Obj)} {σ : L2.St} {H : Hp} {s : Shared} {Q : VK} {us : List Value} {vs : List V} (F : FnG X.prog X.w X.K X.mg X.base k f fd ps sp) (hr : RoomG k X.A) (hb : Binds X.K fd ps [])
    (tk : Takes X W) (I : Inv X pins σ H s) (r : Vals vs us) (h : sp vs H Q fun c d H' => W c d σ H') : wpAny (model X.prog X.w) X.A (call (.ref f) us) (EP X pins σ Q) X.xe s := by
  have hl : us.length = ps.length := by rw [← r.length]; exact F.len _ _ _ _ h
  have hb' := hb s us I.kIn (by rw [List.append_nil]; exact hl)
  rw [List.append_nil] at hb'
  refine wpAny_call (codeAny_mono (F.run X.A X.stack s H ⟨us, []⟩ us vs Q _ hr I.env0 hb' r h) fun r s' hq => ?_)
  rcases r with e | fl
  · exact tk _ _ (XE.of_call I (fun _ _ _ z => z) hq)
  · rcases fl with _ | _ | _ | u
    all_goals first
      | exact I.after hq
      | exact False.elim hq
theorem peCallG (F : FnG X.prog X.w X.K X.mg X.base k f fd ps sp) (hr : RoomG k X.A) (hb : Binds X.K fd ps []) (tk : Takes X W) (hg : Gl X x) (hm : X.mg x = some (.ref f)) (hk : PySem.W.keepIn X.K (.ref f) = true)
    (ha : PA X (e :: es) t) (hdb : (x == ("__debug__" : Str)) = false) (he : starEach (e :: es) X.env = (false, eval e X.env) :: starEach es X.env) (hpl : (backTo pos (starEach es X.env)).any (·.1) = false) :
    PE X (.Call (.Name x p) (e :: es) [] pos) fun σ H Q => t σ H fun vs H1 => sp vs H1 Q fun c d H2 => W c d σ H2 := by
  refine ⟨fun pins s σ H Q I h => wpAny_Call_Name_kw (ld_glob I hg hm ?_ hdb)⟩
  refine PySem.W.callWith_K (h₀ := X.base) I.ok.mod.kin hk (thn (ha.run pos pins s σ H _ I h) fun us s1 ⟨vs, H1, I1, r, q⟩ => ⟨I1.kIn, ?_⟩) he hpl
  exact runG F hr hb tk I1 r q
theorem peCallG0 (F : FnG X.prog X.w X.K X.mg X.base k f fd ps sp) (hr : RoomG k X.A) (hb : Binds X.K fd ps []) (tk : Takes X W) (hg : Gl X x) (hm : X.mg x = some (.ref f)) (hk : PySem.W.keepIn X.K (.ref f) = true)
    (hdb : (x == ("__debug__" : Str)) = false) : PE X (.Call (.Name x p) [] [] pos) fun σ H Q => tNil σ H fun vs H1 => sp vs H1 Q fun c d H2 => W c d σ H2 := by
  refine ⟨fun pins s σ H Q I h => wpAny_Call_Name_kw (ld_glob I hg hm ?_ hdb)⟩
  exact PySem.W.callWith_K0 I.kIn hk (runG (us := []) F hr hb tk I .nil h)
theorem runKG {pins : List (Addr × Obj)} {σ : L2.St} {H : Hp} {s : Shared} {Q : VK} {us ws : List Value} {vs zs : List V} {ks : List Str} (F : FnG X.prog X.w X.K X.mg X.base k f fd ps sp) (hr : RoomG k X.A) (hb : Bnd X.K fd ps ks)
    (tk : Takes X W) (I : Inv X pins σ H s) (r : Vals vs us) (rz : Vals zs ws) (hz : zs.length = ks.length) (h : sp (vs ++ zs) H Q fun c d H' => W c d σ H') : wpAny (model X.prog X.w) X.A (call (.ref f) us (ks.zip ws)) (EP X pins σ Q) X.xe s := by
  have r2 := r.append rz
  have hl : (us ++ ws).length = ps.length := by rw [← r2.length]; exact F.len _ _ _ _ h
  refine wpAny_call (codeAny_mono (F.run X.A X.stack s H ⟨us, ks.zip ws⟩ (us ++ ws) (vs ++ zs) Q _ hr I.env0 (hb s us ws I.kIn (rz.length.symm.trans hz) hl) r2 h) fun r s' hq => ?_)
  rcases r with e | fl
  · exact tk _ _ (XE.of_call I (fun _ _ _ z => z) hq)
  · rcases fl with _ | _ | _ | u
    all_goals first
      | exact I.after hq
      | exact False.elim hq
theorem peCallKG {tk2 : TA} {kws : List Keyword} {ks : List Str} (F : FnG X.prog X.w X.K X.mg X.base k f fd ps sp) (hr : RoomG k X.A) (hb : Bnd X.K fd ps ks) (tk : Takes X W) (hg : Gl X x) (hm : X.mg x = some (.ref f)) (hk : PySem.W.keepIn X.K (.ref f) = true)
    (ha : PA X (e :: es) t) (hkw : PK X kws tk2) (hall : (backToKw pos (keywordEach kws X.env)).all (·.1.isSome) = true) (hks : (backToKw pos (keywordEach kws X.env)).filterMap (·.1) = ks)
    (hdb : (x == ("__debug__" : Str)) = false) (he : starEach (e :: es) X.env = (false, eval e X.env) :: starEach es X.env)
    (hpl : ((backTo pos (starEach (e :: es) X.env)).any (·.1) || (backToKw pos (keywordEach kws X.env)).any (·.1.isNone)) = false) :
    PE X (.Call (.Name x p) (e :: es) kws pos) fun σ H Q => t σ H fun vs H1 => tk2 σ H1 fun zs H2 => zs.length = ks.length ∧ sp (vs ++ zs) H2 Q fun c d H3 => W c d σ H3 := by
  refine ⟨fun pins s σ H Q I h => wpAny_Call_Name_kw (ld_glob I hg hm ?_ hdb)⟩
  refine PySem.W.callWith_KW (h₀ := X.base) I.ok.mod.kin hk hall (thn (ha.run pos pins s σ H _ I h) fun us s1 ⟨vs, H1, I1, r, q⟩ => ?_) hpl he
  refine thn (hkw.run pos pins s1 σ H1 _ I1 q) fun ws s2 ⟨zs, H2, I2, rz, l2, q2⟩ => ⟨I2.kIn, ?_⟩
  rw [hks]
  exact runKG F hr hb tk I2 r rz l2 q2
/-- the tree of o.m(..) -/
def MethTree (X : Cx) (o : Expr) (m : Str) (apos : Pos) (args : List Expr) (pos : Pos) : Prop := ∃ pl : Sem Bool, eval (.Call (.Attribute o m apos) args [] pos) X.env = (do
  let ov ← eval o X.env
  standAt apos.atName
  let (f, first) ← holding [ov] (getMethod ov m pl)
  callWith pos f first (backTo pos (starEach args X.env)) (backToKw pos (keywordEach [] X.env)))
/-- len(x) of an instance of a class of the text -/
theorem callLenO (hm : Meth X.K C "__len__" f) (F : FnG X.prog X.w X.K X.mg X.base k f fd ps sp) (hr : RoomG (k + 1) X.A) (hb : Binds X.K fd ps []) (tk : Takes X W) :
    CallR X (.builtin "len") fun xs H Q => ∃ a dx fs, xs = [V.ref a] ∧ H a = some (.ins C dx fs) ∧ sp [V.ref a] H (fun y H2 => ∃ n : Int, y = .int n ∧ 0 ≤ n ∧ n < 2 ^ 63 ∧ Q (.int n) H2) fun _ _ _ => False := by
  intro pins s σ H xs us Q I r h
  obtain ⟨a, dx, fs, rfl, ha, q⟩ := h
  obtain ⟨u, rfl, ru⟩ := vals1 r
  obtain rfl : u = Value.ref a := ru
  have hl : ([Value.ref a] : List Value).length = ps.length := F.len _ _ _ _ q
  have hb' := hb s [.ref a] I.kIn (by rw [List.append_nil]; exact hl)
  rw [List.append_nil] at hb'
  refine Calls.call_function_entry kind_len plain_len entry_len (args_len1 _) ?_
  unfold Builtin.«len»
  refine wpAny_bind (m := oneArg "len" _) (wpAny_pure ?_)
  obtain ⟨mA, M0, _⟩ := ins_get I.hok ha
  obtain ⟨od, Ia, _⟩ := M0.look
  refine wpAny_bind (m := callSpecial? (.ref a) (PySem.Str.ofString "__len__")) (PySem.W.special_fn I.kIn Ia hm.at_ (beq_iff_eq.mp hm.fn) ?_)
  refine wpAny_call (codeAny_mono (F.run X.A.in1 X.stack s H ⟨[.ref a], []⟩ [.ref a] [.ref a] _ _ hr.in1 I.env0.in1 hb' (.cons rfl .nil) q) fun r s' hq => ?_)
  rcases r with e | fl
  · exact tk _ _ (XE.of_call I (fun _ _ _ z => z.elim) hq)
  · rcases fl with _ | _ | _ | u
    all_goals try exact False.elim hq
    obtain ⟨y, H', I3, ry, n, ey, h0, h1, q3⟩ := I.after hq
    subst ey
    obtain ⟨t, rfl⟩ := ry
    dsimp only
    refine wpAny_bind (wpAny_holding (wpAny_pure ?_))
    refine wpAny_bind (wpAny_letGo ?_)
    show wpAny _ _ (if n < 0 then _ else _) _ _ _
    rw [if_neg (by omega)]
    show wpAny _ _ (if n ≥ 2 ^ 63 then _ else _) _ _ _
    rw [if_neg (by omega)]
    exact wpAny_bind (wpAny_mkInt (wpAny_pure ⟨_, rfl, V.int n, H', I3.tok _, ⟨_, rfl⟩, q3⟩))
theorem peMethG (he : PE X o ta) (c : Cls X.K C) (hm : Meth X.K C m f) (F : FnG X.prog X.w X.K X.mg X.base k f fd ps sp) (hr : RoomG k X.A) (hb : Binds X.K fd ps []) (tk : Takes X W) (ha : PA X (e :: es) t)
    (hst : starEach (e :: es) X.env = (false, eval e X.env) :: starEach es X.env) (hpl : (backTo pos (starEach es X.env)).any (·.1) = false) (ht : MethTree X o m apos (e :: es) pos) :
    PE X (.Call (.Attribute o m apos) (e :: es) [] pos) fun σ H Q => ta σ H fun x H1 => ∃ a dx fs, x = .ref a ∧ H1 a = some (.ins C dx fs) ∧ fs.lookup m = none ∧
      t σ H1 fun vs H2 => sp (.ref a :: vs) H2 Q fun c d H3 => W c d σ H3 := by
  obtain ⟨pl, ht⟩ := ht
  refine ⟨fun pins s σ H Q I h => PySem.W.methodCall_KW (pl := pl) (thn (he.run pins s σ H _ I h) fun u s1 ⟨x, H1, I1, rx, a, dx, fs, ex, ea, l, q⟩ => ?_) ht⟩
  subst ex
  cases rx
  refine getmeth_ok I1 ea c hm l (PySem.W.callWith_K (first := [.ref a]) (h₀ := X.base) I.ok.mod.kin hm.kp (thn (ha.run pos pins s1 σ H1 _ I1 q) fun us s2 ⟨vs, H2, I2, r, q2⟩ => ⟨I2.kIn, ?_⟩) hst hpl)
  exact runG (us := .ref a :: us) (vs := .ref a :: vs) F hr hb tk I2 (.cons rfl r) q2
theorem peMethG0 (he : PE X o ta) (c : Cls X.K C) (hm : Meth X.K C m f) (F : FnG X.prog X.w X.K X.mg X.base k f fd ps sp) (hr : RoomG k X.A) (hb : Binds X.K fd ps []) (tk : Takes X W) (ht : MethTree X o m apos [] pos) :
    PE X (.Call (.Attribute o m apos) [] [] pos) fun σ H Q => ta σ H fun x H1 => ∃ a dx fs, x = .ref a ∧ H1 a = some (.ins C dx fs) ∧ fs.lookup m = none ∧
      tNil σ H1 fun vs H2 => sp (.ref a :: vs) H2 Q fun c d H3 => W c d σ H3 := by
  obtain ⟨pl, ht⟩ := ht
  refine ⟨fun pins s σ H Q I h => PySem.W.methodCall_KW (pl := pl) (thn (he.run pins s σ H _ I h) fun u s1 ⟨x, H1, I1, rx, a, dx, fs, ex, ea, l, q⟩ => ?_) ht⟩
  subst ex
  cases rx
  exact getmeth_ok I1 ea c hm l (PySem.W.callWith_K0 (first := [.ref a]) I1.kIn hm.kp (runG (us := [.ref a]) (vs := [.ref a]) F hr hb tk I1 (.cons rfl .nil) q))

theorem runMakeG {pins : List (Addr × Obj)} {σ : L2.St} {H : Hp} {s : Shared} {Q : VK} {us : List Value} {vs : List V} (M : Mk X.K C f) (F : FnG X.prog X.w X.K X.mg X.base k f fd ps sp) (hr : RoomG (k + 1) X.A) (hb : Binds X.K fd ps [])
    (tk : Takes X W) (I : Inv X pins σ H s) (r : Vals vs us)
    (h : ∀ x dx, H x = none → H dx = none → dx ≠ x → sp (.ref x :: vs) (upd (upd H dx (.own x)) x (.ins C dx [])) (fun v H2 => v = .non ∧ Q (.ref x) H2) fun c d H' => W c d σ H') :
    wpAny (model X.prog X.w) X.A (call (.ref C) us) (EP X pins σ Q) X.xe s := by
  have hq := h (s.heap.objs.size + 1) s.heap.objs.size (I.hok.fresh (Nat.le_succ _)) (I.hok.fresh (Nat.le_refl _)) (Nat.ne_of_lt (Nat.lt_succ_self _))
  have I2 := Inv.made (C := C) I
  have r2 : Vals (V.ref (s.heap.objs.size + 1) :: vs) (Value.ref (s.heap.objs.size + 1) :: us) := .cons rfl r
  have hl : (Value.ref (s.heap.objs.size + 1) :: us).length = ps.length := r2.length.symm.trans (F.len _ _ _ _ hq)
  have hb' := hb _ (Value.ref (s.heap.objs.size + 1) :: us) I2.kIn (by rw [List.append_nil]; exact hl)
  rw [List.append_nil] at hb'
  refine wpAny_call (make_map (f := f) I.kIn M.makes M.init (beq_iff_eq.mp M.fn) (codeAny_mono (F.run (X.A.under (.builtin "type.__call__" ⟨.ref C :: us, []⟩)) X.stack _ _ ⟨Value.ref (s.heap.objs.size + 1) :: us, []⟩ (Value.ref (s.heap.objs.size + 1) :: us) _ _ _ (hr.make C us [])
    (I2.env0.make C us []) hb' r2 hq) fun r s' hq' => ?_))
  rcases r with e | fl
  · exact tk _ _ (XE.of_call I2 (fun _ _ _ z => z) hq')
  · rcases fl with _ | _ | _ | u
    all_goals try exact False.elim hq'
    obtain ⟨v, H', I3, rv, ev, q3⟩ := I2.after hq'
    subst ev
    exact ⟨rv, ⟨V.ref (s.heap.objs.size + 1), H', I3, rfl, q3⟩⟩
theorem peMakeG (M : Mk X.K C f) (F : FnG X.prog X.w X.K X.mg X.base k f fd ps sp) (hr : RoomG (k + 1) X.A) (hb : Binds X.K fd ps []) (tk : Takes X W) (hg : Gl X x) (hm : X.mg x = some (.ref C))
    (ha : PA X (e :: es) t) (hdb : (x == ("__debug__" : Str)) = false) (he : starEach (e :: es) X.env = (false, eval e X.env) :: starEach es X.env) (hpl : (backTo pos (starEach es X.env)).any (·.1) = false) :
    PE X (.Call (.Name x p) (e :: es) [] pos) fun σ H Q => t σ H fun vs H1 => ∀ x dx, H1 x = none → H1 dx = none → dx ≠ x →
      sp (.ref x :: vs) (upd (upd H1 dx (.own x)) x (.ins C dx [])) (fun u H2 => u = .non ∧ Q (.ref x) H2) fun c d H2 => W c d σ H2 := by
  refine ⟨fun pins s σ H Q I h => wpAny_Call_Name_kw (ld_glob I hg hm ?_ hdb)⟩
  refine PySem.W.callWith_K (h₀ := X.base) I.ok.mod.kin M.kp (thn (ha.run pos pins s σ H _ I h) fun us s1 ⟨vs, H1, I1, r, q⟩ => ⟨I1.kIn, ?_⟩) he hpl
  exact runMakeG M F hr hb tk I1 r q
theorem peMakeG0 (M : Mk X.K C f) (F : FnG X.prog X.w X.K X.mg X.base k f fd ps sp) (hr : RoomG (k + 1) X.A) (hb : Binds X.K fd ps []) (tk : Takes X W) (hg : Gl X x) (hm : X.mg x = some (.ref C))
    (hdb : (x == ("__debug__" : Str)) = false) :
    PE X (.Call (.Name x p) [] [] pos) fun σ H Q => tNil σ H fun vs H1 => ∀ x dx, H1 x = none → H1 dx = none → dx ≠ x →
      sp (.ref x :: vs) (upd (upd H1 dx (.own x)) x (.ins C dx [])) (fun u H2 => u = .non ∧ Q (.ref x) H2) fun c d H2 => W c d σ H2 := by
  refine ⟨fun pins s σ H Q I h => wpAny_Call_Name_kw (ld_glob I hg hm ?_ hdb)⟩
  exact PySem.W.callWith_K0 I.kIn M.kp (runMakeG (us := []) M F hr hb tk I .nil h)
end

/-- a def by its body -/
theorem fnG_of {P : Program} {w : World} {K : PySem.W.Frag} {mg : Str → Option Value} {base : Heap} {k : Nat} {f : Addr} {name qual : Str} {params : Arguments} {body : List Stmt} {scope : Scope} {dV kV doc pm cdv ct oc : Value} {an od : Option Addr}
    {osl : Array (Option Value)} {N ps : List Str} {sp : Sp} (lk : K.lookup f = some ⟨oc, od, .func (PySem.W.fnOf name qual params body scope dV kV doc pm an cdv ct), osl⟩) (hcd : PySem.W.codeIn K cdv qual = true) (S : FnScope N ps scope)
    (len : ∀ vs H Q E, sp vs H Q E → vs.length = ps.length)
    (hbody : ∀ (A : Around) (outer : List Env) (s : Shared) (H : Hp) (vs : List V) (Q : VK) (E : XK), RoomG k (A.deeper (envOfC qual scope s.heap.objs.size f cdv)) → sp vs H Q E →
      ∃ t, PSs (cxOf (CX P w) P w K mg base N qual scope f cdv A outer s H E) body t ∧ t { nx := fun _ H' => Q .non H', rt := Q } (start N vs) H) :
    FnG P w K mg base (k + 1) f (PySem.W.fnOf name qual params body scope dV kV doc pm an cdv ct) ps sp := by
  refine ⟨len, fun A outer s H args us vs Q E hr e0 hb r hsp => ?_⟩
  have hl := len _ _ _ _ hsp
  have kept : ∀ b o, base.get? b = some o → s.heap.get? b = some o := fun b o z => (e0.bs b o z).1
  have KX : K.In s.heap := e0.mod.kin.keeps kept
  have lim : s.heap.NoLimit := e0.mod.nolimit.keeps kept
  have kinds : ∀ y ∈ ps.zip us, scope.names.lookup y.1 = some .local ∨ (scope.names.lookup y.1 = some .cell ∧ ((cellsFrom (s.heap.objs.size + 1) scope.names []).lookup y.1).isSome = true) := by
    rintro ⟨n, v⟩ hy
    exact (S.par n (List.of_mem_zip hy).1).imp (fun q => q) fun q => ⟨q, PySem.W.cellsFrom_some _ _ _ (.inl q)⟩
  refine codeAny_call_function hr.r.depth (KX _ _ lk) rfl S.co S.gen rfl (PySem.W.codeRec_of KX hcd) (hb _ _ _ _ (wpAny_newFunctionEnv_cells S.kind kinds fun env he s1 x => ?_))
  subst he
  refine ⟨lim.keeps x.toInCall.keep, codeAny_func ?_⟩
  obtain ⟨t, ht, hq⟩ := hbody A outer s H vs Q E (hr.deeper _) hsp
  have I := inv_start (CX := CX P w) (qual := qual) (cd := cdv) (f := f) (E := E) S hr.r.hd e0 hl r x
  refine wpAny_mono (ht.run [] s1 (start N vs) H _ I hq) (fun fl s' hs => ?_) fun e s' hs => hs
  rcases fl with _ | _ | _ | u
  · obtain ⟨σ', H', J, q⟩ := hs
    exact ⟨V.non, H', J.os, J.bare, J.base, J.hok, rfl, q⟩
  · obtain ⟨_, _, _, q⟩ := hs
    exact False.elim q
  · obtain ⟨_, _, _, q⟩ := hs
    exact False.elim q
  · obtain ⟨v, σ', H', J, rv, q⟩ := hs
    exact ⟨v, H', J.os, J.bare, J.base, J.hok, rv, q⟩
end DI

/-! DI, part 5: the look that a code is the code of a tree. -/
namespace DI
open L2
open PySem.Spec
open PyProof.Rows hiding St
open PySem

/-- what the look hangs on: the frame's names and scope; the names of the defs, classes, constants by number; which of them are known -/
structure CK where
  N : List Str
  sc : Scope
  fn : Nat → Str
  cn : Nat → Str
  gn : Nat → Str
  calls : List Nat
  mths : List (Nat × Nat × Str)
  mks : List (Nat × Nat)
  flds : List (Nat × Str)
  gls : List Nat
  kw : Nat → List Str := fun _ => []
  blk : Bool := false
  /-- the names of the block itself -/
  bn : List (Str × NameKind) := []
  /-- the exception classes: number, field; within an except suite -/
  exs : List (Nat × Str) := []
  bases : List Nat := []
  hot : Bool := false

/-- a def that is called without keywords -/
def CK.cl (t : CK) (f : Nat) : Bool := t.calls.contains f && (t.kw f).isEmpty
def CK.mt (t : CK) (C m : Nat) (nm : Str) : Bool := t.mths.contains (C, m, nm) && (t.kw m).isEmpty
def CK.mkq (t : CK) (C f : Nat) : Bool := t.mks.contains (C, f) && (t.kw f).isEmpty
def glB (sc : Scope) (x : Str) : Bool := decide (sc.names.lookup x = some .globalImplicit)
def visB (sc : Scope) (x : Str) : Bool := decide (sc.names.lookup x = some .local) || decide (sc.names.lookup x = some .cell) || decide (sc.names.lookup x = some .free)
def locB (sc : Scope) (x : Str) : Bool := decide (sc.names.lookup x = some .local) || decide (sc.names.lookup x = some .cell)
def dbgB (x : Str) : Bool := !(x == ("__debug__" : Str)) && !(x == ("__classdict__" : Str))
/-- not a star, a slice, a set, a comprehension; plain as a test; plain ahead of a point -/
def nStar : Expr → Bool
  | .Starred _ _ => false
  | _ => true
def nSl : Expr → Bool
  | .Slice _ _ _ _ => false
  | _ => true
def nSet : Expr → Bool
  | .Set _ _ _ => false
  | _ => true
def nCmp : Expr → Bool
  | .ListComp _ _ _ _ => false
  | .SetComp _ _ _ _ => false
  | .DictComp _ _ _ _ _ => false
  | _ => true
def nTest : Expr → Bool
  | .UnaryOp .Not _ _ => false
  | .BoolOp _ _ _ => false
  | .IfExp _ _ _ _ => false
  | .Compare _ _ _ _ => false
  | _ => true
def nBase : Expr → Bool
  | .Call (.Attribute _ _ _) _ _ _ => true
  | .Call _ _ _ _ => false
  | _ => true
def nPair : Expr → Bool
  | .Tuple _ _ _ => false
  | .List _ _ => false
  | _ => true
/-- a tuple to a tuple of targets that is unpacked, not swapped -/
def foldB : Expr → Expr → Bool
  | .Tuple ts _ _, .Tuple vs _ _ => vs.all (foldedForSure 8) || !(ts.length == 2 || ts.length == 3)
  | _, _ => false
def allSome (l : List (Option Expr)) : Bool := l.all (·.isSome)
def somes (l : List (Option Expr)) : List Expr := l.filterMap id
def tyNames : List String := ["int", "bool", "str", "list", "tuple", "dict"]
/-- the comprehension's own names and their slots -/
def ownP (N : List Str) (own : List Nat) : List (Str × Nat) := own.map fun i => (N.getD i "", i)
theorem ownP_snd (N : List Str) (own : List Nat) : (ownP N own).map (·.2) = own := by
  unfold ownP
  rw [List.map_map]
  induction own with
  | nil => rfl
  | cons a r ih => rw [List.map_cons, ih]; rfl

def litB (x : V) : Const → Bool
  | .int i => decide (x = .int i)
  | .bool b => decide (x = .bl b)
  | .str s => decide (x = .str s)
  | .none => decide (x = .non)
  | _ => false
/-- a target beside which a comprehension is not swapped -/
def cellT (sc : Scope) : Expr → Bool
  | .Name x _ => !decide (sc.names.lookup x = some .local)
  | _ => true
/-- names that take a tuple's items, stored from the right -/
def noStars (l : List Expr) : Bool := !l.any fun | .Starred .. => true | _ => false
def parB (sc : Scope) (ns : List (Str × Pos)) (vs : List Expr) : Bool := decide (sc.kind = .function) && (ns.all fun p => decide (sc.names.lookup p.1 = some .local)) && (ns.all fun p => p.2.line == ((ns.head?.map (·.2.line)).getD 0)) &&
  decide ((ns.map (·.1)).eraseDups.length = ns.length) && noStars vs && !(vs.all (foldedForSure 8)) && !(vs.all (constantsAlone 8))
theorem parB_loc {sc : Scope} {ns : List (Str × Pos)} {vs : List Expr} (h : parB sc ns vs = true) : ∀ p ∈ ns, sc.names.lookup p.1 = some .local := by
  unfold parB at h
  simp only [Bool.and_eq_true, List.all_eq_true, decide_eq_true_eq] at h
  exact h.1.1.1.1.1.2
mutual
def Xp.chk : Xp → CK → Expr → Bool
  | .v i, t, e => match e with
    | .Name x _ => decide (t.N[i]? = some x) && visB t.sc x && dbgB x
    | _ => false
  | .c x, t, e => match e with
    | .Constant k _ _ => litB x k
    | _ => false
  | .g i, t, e => match e with
    | .Name x _ => decide (x = t.gn i) && t.gls.contains i && glB t.sc x && dbgB x
    | _ => false
  | .ty n, t, e => match e with
    | .Name x _ => decide (x = Str.ofString n) && tyNames.contains n && glB t.sc x
    | _ => false
  | .bin op a b, t, e => match e with
    | .BinOp l o r _ => decide (o = op) && a.chk t l && b.chk t r
    | _ => false
  | .neg a, t, e => match e with
    | .UnaryOp .USub l _ => a.chk t l
    | _ => false
  | .cmp op a b, t, e => match e with
    | .Compare l [o] [r] _ => decide (o = op) && nSet r && a.chk t l && b.chk t r
    | _ => false
  | .chn o1 o2 a b c, t, e => match e with
    | .Compare l [p1, p2] [r1, r2] _ => decide (p1 = o1) && decide (p2 = o2) && nSet r2 && a.chk t l && b.chk t r1 && c.chk t r2
    | _ => false
  | .and a b, t, e => match e with
    | .BoolOp .And [l, r] _ => a.chk t l && b.chk t r
    | .BoolOp .And (l :: r :: r2 :: rest) p => a.chk t l && b.chk t (.BoolOp .And (r :: r2 :: rest) p)
    | _ => false
  | .or a b, t, e => match e with
    | .BoolOp .Or [l, r] _ => a.chk t l && b.chk t r
    | .BoolOp .Or (l :: r :: r2 :: rest) p => a.chk t l && b.chk t (.BoolOp .Or (r :: r2 :: rest) p)
    | _ => false
  | .not a, t, e => match e with
    | .UnaryOp .Not l _ => a.chk t l
    | _ => false
  | .ite c a b, t, e => match e with
    | .IfExp x l r _ => c.chk t x && a.chk t l && b.chk t r
    | _ => false
  | .tup es, t, e => match e with
    | .Tuple l _ _ => es.chk t l
    | _ => false
  | .lst es, t, e => match e with
    | .List l _ => es.chk t l
    | _ => false
  | .dct0, _, e => match e with
    | .Dict [] [] _ => true
    | _ => false
  | .dctT0, _, e => match e with
    | .Dict [] [] _ => true
    | _ => false
  | .dct ks vs, t, e => match e with
    | .Dict keys values _ => allSome keys && decide (keys ≠ []) && decide (keys.length ≤ 15) && ks.chk t (somes keys) && vs.chk t values && decide (keys.length = values.length)
    | _ => false
  | .dget d k x, t, e => match e with
    | .Call (.Attribute r m ap) [l1, l2] [] p => decide (m = ("get" : Str)) && nBase r && (ap.endLine == p.line) && nStar l1 && nStar l2 && d.chk t r && k.chk t l1 && x.chk t l2
    | _ => false
  | .lrg1 a, t, e => match e with
    | .Call (.Name n1 _) [.Call (.Name n2 _) [l] [] _] [] _ => !t.hot && decide (n1 = ("list" : Str)) && decide (n2 = ("range" : Str)) && glB t.sc n1 && glB t.sc n2 && nStar l && a.chk t l
    | _ => false
  | .lrg2 a b, t, e => match e with
    | .Call (.Name n1 _) [.Call (.Name n2 _) [l, r] [] _] [] _ => !t.hot && decide (n1 = ("list" : Str)) && decide (n2 = ("range" : Str)) && glB t.sc n1 && glB t.sc n2 && nStar l && nStar r && a.chk t l && b.chk t r
    | _ => false
  | .chn3 o1 o2 o3 a b c d, t, e => match e with
    | .Compare l [p1, p2, p3] [r1, r2, r3] _ => decide (p1 = o1) && decide (p2 = o2) && decide (p3 = o3) && nSet r3 && a.chk t l && b.chk t r1 && c.chk t r2 && d.chk t r3
    | _ => false
  | .ef i f, t, e => match e with
    | .Attribute (.Name x _) m _ => decide (m = f) && t.hot && decide (t.N[i]? = some x) && visB t.sc x && dbgB x
    | _ => false
  | .ei i C, t, e => match e with
    | .Call (.Name n1 _) [.Name x _, .Name c _] [] _ => decide (n1 = ("isinstance" : Str)) && glB t.sc n1 && t.hot && decide (t.N[i]? = some x) && visB t.sc x && dbgB x && decide (c = t.cn C) && glB t.sc c && dbgB c && ((t.exs.any fun q => decide (q.1 = C)) || t.bases.contains C)
    | _ => false
  | .eib i n, t, e => match e with
    | .Call (.Name n1 _) [.Name x _, .Name c _] [] _ => decide (n1 = ("isinstance" : Str)) && glB t.sc n1 && t.hot && decide (t.N[i]? = some x) && visB t.sc x && dbgB x && decide (c = Str.ofString n) && glB t.sc c && decide (n = "ValueError")
    | _ => false
  | .ix a i, t, e => match e with
    | .Subscript l r _ => a.chk t l && i.chk t r && nSl r
    | _ => false
  | .sl a lo hi, t, e => match e with
    | .Subscript l (.Slice x y none _) _ => a.chk t l && lo.chk t x && hi.chk t y
    | _ => false
  | .rev a, t, e => match e with
    | .Subscript l (.Slice none none (some (.UnaryOp .USub (.Constant (.int 1) _ _) _)) _) _ => a.chk t l
    | _ => false
  | .fld C o f, t, e => match e with
    | .Attribute l x _ => decide (x = f) && t.flds.contains (C, f) && nBase l && o.chk t l
    | _ => false
  | .call f es, t, e => match e with
    | .Call (.Name x _) l [] _ => !t.hot && decide (x = t.fn f) && t.cl f && glB t.sc x && dbgB x && es.chk t l
    | _ => false
  | .callk f es ks, t, e => match e with
    | .Call (.Name x _) (a :: l) kws _ => !t.hot && decide (x = t.fn f) && t.calls.contains f && glB t.sc x && dbgB x && decide (kws.map (·.arg) = (t.kw f).map some) && es.chk t (a :: l) && ks.chk t (kws.map (·.value))
    | _ => false
  | .bits a, t, e => match e with
    | .Call (.Attribute r x ap) [] [] p => decide (x = ("bit_length" : Str)) && nBase r && (ap.endLine == p.line) && a.chk t r
    | _ => false
  | .mk C f es, t, e => match e with
    | .Call (.Name x _) l [] _ => !t.hot && decide (x = t.cn C) && t.mkq C f && glB t.sc x && dbgB x && es.chk t l
    | _ => false
  | .meth m C nm o es, t, e => match e with
    | .Call (.Attribute r x ap) l [] p => !t.hot && decide (x = nm) && t.mt C m nm && nBase r && decide (l.length < 30) && (ap.endLine == p.line) && o.chk t r && es.chk t l
    | _ => false
  | .bc b es, t, e => match e with
    | .Call (.Name x _) (l :: r) [] _ => (!t.hot || decide (b = .isi)) && decide (x = b.name) && glB t.sc x && es.chk t (l :: r)
    | _ => false
  | .lenO m C es, t, e => match e with
    | .Call (.Name x _) (l :: r) [] _ => !t.hot && decide (x = Bf.len.name) && glB t.sc x && t.mt C m "__len__" && es.chk t (l :: r)
    | _ => false
  | .bm m o es, t, e => match e with
    | .Call (.Attribute r x ap) l [] p => !t.hot && decide (x = m.name) && nBase r && decide (l.length < 30) && (ap.endLine == p.line) && o.chk t r && es.chk t l
    | _ => false
  | .mxd mx a d, t, e => match e with
    | .Call (.Name x _) [l] [⟨some nm, r, _⟩] _ => !t.hot && decide (x = (if mx = true then ("max" : Str) else "min")) && decide (nm = ("default" : Str)) && glB t.sc x && nStar l && a.chk t l && d.chk t r
    | _ => false
  | .dc k el tg it ifs own, t, e => match e with
    | .DictComp x y [⟨tt, ii, ff, 0⟩] sc _ => !t.hot && blkC t.N t.sc sc (ownP t.N own) && nSet ii && it.chk t tt ii && tg.chk { t with sc := relS sc t.sc, blk := true, bn := sc.names } tt && ifs.chk { t with sc := relS sc t.sc, blk := true, bn := sc.names } ff && k.chk { t with sc := relS sc t.sc, blk := true, bn := sc.names } x && el.chk { t with sc := relS sc t.sc, blk := true, bn := sc.names } y
    | _ => false
  | .lc el tg it ifs own, t, e => match e with
    | .ListComp y [⟨tt, ii, ff, 0⟩] sc _ => !t.hot && blkC t.N t.sc sc (ownP t.N own) && nSet ii && it.chk t tt ii && tg.chk { t with sc := relS sc t.sc, blk := true, bn := sc.names } tt && ifs.chk { t with sc := relS sc t.sc, blk := true, bn := sc.names } ff && el.chk { t with sc := relS sc t.sc, blk := true, bn := sc.names } y
    | _ => false
def Xpo.chk : Xpo → CK → Option Expr → Bool
  | .no, _, e => match e with
    | none => true
    | some _ => false
  | .so a, t, e => match e with
    | none => false
    | some l => a.chk t l
def Xps.chk : Xps → CK → List Expr → Bool
  | .nil, _, l => match l with
    | [] => true
    | _ => false
  | .cons a r, t, l => match l with
    | e :: es => nStar e && a.chk t e && r.chk t es
    | _ => false
def Tt.chk : Tt → CK → Expr → Bool
  | .tr a, t, e => nTest e && a.chk t e
  | .cmp op a b, t, e => match e with
    | .Compare l [o] [r] _ => decide (o = op) && nSet r && a.chk t l && b.chk t r
    | _ => false
  | .chn o1 o2 a b c, t, e => match e with
    | .Compare l [p1, p2] [r1, r2] _ => decide (p1 = o1) && decide (p2 = o2) && nSet r2 && a.chk t l && b.chk t r1 && c.chk t r2
    | _ => false
  | .chn3 o1 o2 o3 a b c d, t, e => match e with
    | .Compare l [p1, p2, p3] [r1, r2, r3] _ => decide (p1 = o1) && decide (p2 = o2) && decide (p3 = o3) && nSet r3 && a.chk t l && b.chk t r1 && c.chk t r2 && d.chk t r3
    | _ => false
  | .and a b, t, e => match e with
    | .BoolOp .And [l, r] _ => a.chk t l && b.chk t r
    | .BoolOp .And (l :: r :: r2 :: rest) p => a.chk t l && b.chk t (.BoolOp .And (r :: r2 :: rest) p)
    | _ => false
  | .or a b, t, e => match e with
    | .BoolOp .Or [l, r] _ => a.chk t l && b.chk t r
    | .BoolOp .Or (l :: r :: r2 :: rest) p => a.chk t l && b.chk t (.BoolOp .Or (r :: r2 :: rest) p)
    | _ => false
  | .not a, t, e => match e with
    | .UnaryOp .Not l _ => a.chk t l
    | _ => false
def Tto.chk : Tto → CK → List Expr → Bool
  | .no, _, l => match l with
    | [] => true
    | _ => false
  | .so a, t, l => match l with
    | [e] => a.chk t e
    | _ => false
def Sq.chk : Sq → CK → Expr → Expr → Bool
  | .lst a, t, _, e => a.chk t e
  | .tup a, t, _, e => a.chk t e
  | .txt a, t, _, e => a.chk t e
  | .rng1 a, t, _, e => match e with
    | .Call (.Name x _) [l] [] _ => decide (x = ("range" : Str)) && glB t.sc x && nStar l && a.chk t l
    | _ => false
  | .rng2 a b, t, _, e => match e with
    | .Call (.Name x _) [l, r] [] _ => decide (x = ("range" : Str)) && glB t.sc x && nStar l && nStar r && a.chk t l && b.chk t r
    | _ => false
  | .rng3 a b c, t, _, e => match e with
    | .Call (.Name x _) [l, m, r] [] _ => decide (x = ("range" : Str)) && glB t.sc x && nStar l && nStar m && nStar r && a.chk t l && b.chk t m && c.chk t r
    | _ => false
  | .enm a, t, tg, e => match tg, e with
    | .Tuple _ _ _, .Call (.Name x _) [l] [] _ => decide (x = ("enumerate" : Str)) && glB t.sc x && nStar l && a.chk t l
    | _, _ => false
  | .enmT a, t, tg, e => match tg, e with
    | .Tuple _ _ _, .Call (.Name x _) [l] [] _ => decide (x = ("enumerate" : Str)) && glB t.sc x && nStar l && a.chk t l
    | _, _ => false
  | .zip a b, t, tg, e => match tg, e with
    | .Tuple _ _ _, .Call (.Name x _) [l, r] [] _ => decide (x = ("zip" : Str)) && glB t.sc x && nStar l && nStar r && a.chk t l && b.chk t r
    | _, _ => false
  | .zipS a b, t, tg, e => match tg, e with
    | .Tuple _ _ _, .Call (.Name x _) [l, r] [] _ => decide (x = ("zip" : Str)) && glB t.sc x && nStar l && nStar r && a.chk t l && b.chk t r
    | _, _ => false
  | .rvs a, t, _, e => match e with
    | .Call (.Name x _) [l] [] _ => decide (x = ("reversed" : Str)) && glB t.sc x && nStar l && a.chk t l
    | _ => false
  | .rvT a, t, _, e => match e with
    | .Call (.Name x _) [l] [] _ => decide (x = ("reversed" : Str)) && glB t.sc x && nStar l && a.chk t l
    | _ => false
  | .rvr1 a, t, _, e => match e with
    | .Call (.Name n1 _) [.Call (.Name n2 _) [l] [] _] [] _ => decide (n1 = ("reversed" : Str)) && decide (n2 = ("range" : Str)) && glB t.sc n1 && glB t.sc n2 && nStar l && a.chk t l
    | _ => false
  | .rvr2 a b, t, _, e => match e with
    | .Call (.Name n1 _) [.Call (.Name n2 _) [l, r] [] _] [] _ => decide (n1 = ("reversed" : Str)) && decide (n2 = ("range" : Str)) && glB t.sc n1 && glB t.sc n2 && nStar l && nStar r && a.chk t l && b.chk t r
    | _ => false
  | .any a b, t, tg, e => a.chk t tg e && b.chk t tg e
def Tg.chk : Tg → CK → Expr → Bool
  | .nm i, t, e => match e with
    | .Name x _ => decide (t.N[i]? = some x) && (if t.blk = true then decide (t.sc.names.lookup x = some .local) || (decide (t.sc.names.lookup x = some .cell) && decide (t.bn.lookup x = some .cell)) else locB t.sc x)
    | _ => false
  | .tup gs, t, e => match e with
    | .Tuple l _ _ => !t.hot && gs.chk t l
    | _ => false
  | .sub o i, t, e => match e with
    | .Subscript l r _ => nSl r && o.chk t l && i.chk t r
    | _ => false
def Tgs.chk : Tgs → CK → List Expr → Bool
  | .nil, _, l => match l with
    | [] => true
    | _ => false
  | .cons a r, t, l => match l with
    | e :: es => nStar e && a.chk t e && r.chk t es
    | _ => false
end
mutual
def Sm.chk : Sm → CK → Stmt → Bool
  | .asg g e, t, s => match s with
    | .Assign [tg] y _ => (nCmp y || cellT t.sc tg) && nStar tg && (nPair tg || nPair y || foldB tg y) && g.chk t tg && e.chk t y
    | _ => false
  | .asl i el tg it ifs own, t, s => match s with
    | .Assign [.Name x px] (.ListComp y [⟨tt, ii, ff, 0⟩] sc p) sp => !t.hot && decide (t.N[i]? = some x) && decide (t.sc.names.lookup x = some .local) && (px.line == p.line) &&
        !(sc.names.any fun (n, k) => n == x && (k == .local || k == .cell)) && decide (t.sc.kind = .function) &&
        blkC t.N t.sc sc (ownP t.N own) && nSet ii && it.chk t tt ii && tg.chk { t with sc := relS sc t.sc, blk := true, bn := sc.names } tt && ifs.chk { t with sc := relS sc t.sc, blk := true, bn := sc.names } ff && el.chk { t with sc := relS sc t.sc, blk := true, bn := sc.names } y
    | _ => false
  | .par i j a b, t, s => match s with
    | .Assign [.Tuple [.Name x px, .Name y py] _ _] (.Tuple [e1, e2] _ _) _ => !t.hot && decide (t.N[i]? = some x) && decide (t.N[j]? = some y) && decide (i ≠ j) && parB t.sc [(x, px), (y, py)] [e1, e2] && nStar e1 && nStar e2 && a.chk t e1 && b.chk t e2
    | _ => false
  | .par3 i j l a b c, t, s => match s with
    | .Assign [.Tuple [.Name x px, .Name y py, .Name z pz] _ _] (.Tuple [e1, e2, e3] _ _) _ => !t.hot && decide (t.N[i]? = some x) && decide (t.N[j]? = some y) && decide (t.N[l]? = some z) && decide (i ≠ j) && decide (i ≠ l) && decide (j ≠ l) &&
        parB t.sc [(x, px), (y, py), (z, pz)] [e1, e2, e3] && nStar e1 && nStar e2 && nStar e3 && a.chk t e1 && b.chk t e2 && c.chk t e3
    | _ => false
  | .fld C o f e, t, s => match s with
    | .Assign [.Attribute l x _] y _ => decide (x = f) && t.flds.contains (C, f) && o.chk t l && e.chk t y
    | _ => false
  | .aug i op e, t, s => match s with
    | .AugAssign (.Name x _) o y _ => decide (o = op) && decide (t.N[i]? = some x) && locB t.sc x && !t.blk && e.chk t y
    | _ => false
  | .augf C o f op e, t, s => match s with
    | .AugAssign (.Attribute l x _) op' y _ => decide (op' = op) && decide (x = f) && t.flds.contains (C, f) && o.chk t l && e.chk t y
    | _ => false
  | .exp e, t, s => match s with
    | .Expr y _ => nCmp y && e.chk t y
    | _ => false
  | .ret e, t, s => match s with
    | .Return (some y) _ => e.chk t y
    | _ => false
  | .retN, _, s => match s with
    | .Return none _ => true
    | _ => false
  | .pass, _, s => match s with
    | .Pass _ => true
    | _ => false
  | .brk, _, s => match s with
    | .Break _ => true
    | _ => false
  | .cnt, _, s => match s with
    | .Continue _ => true
    | _ => false
  | .ite c a b, t, s => match s with
    | .If x l r _ => c.chk t x && a.chk t l && b.chk t r
    | _ => false
  | .whl c b, t, s => match s with
    | .While x l [] _ => c.chk t x && b.chk t l
    | _ => false
  | .for_ tg it b, t, s => match s with
    | .For g y l [] _ => !t.hot && nSet y && it.chk t g y && tg.chk t g && b.chk t l
    | _ => false
  | .rai C f es, t, s => match s with
    | .Raise (some (.Call (.Name x _) (l :: r) [] _)) none _ => !t.hot && decide (x = t.cn C) && glB t.sc x && dbgB x && t.exs.contains (C, f) && es.chk t (l :: r)
    | _ => false
  | .tryA b C i sb, t, s => match s with
    | .Try body [.ExceptHandler (some (.Name x _)) (some n) (b0 :: su) _] [] [] _ => !t.hot && !t.blk && decide (x = t.cn C) && glB t.sc x && dbgB x && (t.exs.any (fun q => decide (q.1 = C)) || t.bases.contains C) && decide (t.N[i]? = some n) && decide (t.sc.names.lookup n = some .local) && b.chk t body && sb.chk { t with hot := true } (b0 :: su)
    | _ => false
  | .tryO b C sb, t, s => match s with
    | .Try body [.ExceptHandler (some (.Name x _)) none (b0 :: su) _] [] [] _ => !t.hot && !t.blk && decide (x = t.cn C) && glB t.sc x && dbgB x && (t.exs.any (fun q => decide (q.1 = C)) || t.bases.contains C) && b.chk t body && sb.chk { t with hot := true } (b0 :: su)
    | _ => false
  | .tryM b hs, t, s => match s with
    | .Try body (h :: hds) [] [] _ => !t.hot && !t.blk && b.chk t body && hs.chk t (h :: hds)
    | _ => false
  | .ddel d k, t, s => match s with
    | .Delete [.Subscript l r _] _ => d.chk t l && k.chk t r
    | _ => false
  | .never, _, _ => true
def Sms.chk : Sms → CK → List Stmt → Bool
  | .nil, _, l => match l with
    | [] => true
    | _ => false
  | .cons a r, t, l => match l with
    | s :: ss => a.chk t s && r.chk t ss
    | _ => false
def Hds.chk : Hds → CK → List ExceptHandler → Bool
  | .nil, _, l => match l with
    | [] => true
    | _ => false
  | .cons C sb r, t, l => match l with
    | .ExceptHandler (some (.Name x _)) none (b0 :: su) _ :: hds => decide (x = t.cn C) && glB t.sc x && dbgB x && (t.exs.any (fun q => decide (q.1 = C)) || t.bases.contains C) && sb.chk { t with hot := true } (b0 :: su) && r.chk t hds
    | _ => false
end

/-! ### what the looks say of the trees -/
theorem starEach_cons {e : Expr} (h : nStar e = true) (es : List Expr) (env : Env) : starEach (e :: es) env = (false, eval e env) :: starEach es env := by
  cases e <;> first | rfl | (cases h)
theorem Xps.stars : ∀ {c : Xps} {t : CK} {l : List Expr}, c.chk t l = true → l.all nStar = true
  | .nil, _, [], _ => rfl
  | .nil, _, _ :: _, h => by cases h
  | .cons a r, t, [], h => by cases h
  | .cons a r, t, e :: es, h => by
    simp only [Xps.chk, Bool.and_eq_true] at h
    rw [List.all_cons, h.1.1, Xps.stars h.2]
    rfl
theorem backTo_any {pos : Pos} {env : Env} : ∀ {l : List Expr}, l.all nStar = true → (backTo pos (starEach l env)).any (·.1) = false
  | [], _ => rfl
  | e :: es, h => by
    rw [List.all_cons, Bool.and_eq_true] at h
    rw [starEach_cons h.1]
    show (false || (backTo pos (starEach es env)).any (·.1)) = false
    rw [backTo_any h.2]
    rfl
theorem backTo_all {pos : Pos} {env : Env} : ∀ {l : List Expr}, l.all nStar = true → (backTo pos (starEach l env)).all (fun x => !x.1) = true
  | [], _ => rfl
  | e :: es, h => by
    rw [List.all_cons, Bool.and_eq_true] at h
    rw [starEach_cons h.1]
    show (true && (backTo pos (starEach es env)).all (fun x => !x.1)) = true
    rw [backTo_all h.2]
    rfl
theorem attr_plain {e : Expr} (h : nBase e = true) (f : Str) (env : Env) (w : Sem Value) : attributeBase e f env w = w := by
  cases e with
  | Call g l k p => cases g <;> first | rfl | (cases h)
  | _ => rfl
theorem no_behind {op : CmpOp} {e : Expr} (h : nSet e = true) : behindInMarks op e = false := by
  cases e <;> first | rfl | (cases h)
theorem folded_plain {e : Expr} (h : nSet e = true) (env : Env) (x : Value) : foldedSetIterable e env x = pure x := by
  cases e <;> first | rfl | (cases h)
theorem subs_plain {e : Expr} (h : nSl e = true) (o i : Value) : subscripted e false o i = operate [o, i] (getItem o i) := by
  cases e <;> first | rfl | (cases h)
theorem swap_plain {e : Expr} (h : nCmp e = true) (tg : Option Expr) (l : Nat) (env : Env) : swapsWith e tg l env = pure false := by
  cases e <;> first | rfl | (cases h)
theorem swap_attr (e o : Expr) (a : Str) (p : Pos) (l : Nat) (env : Env) : swapsWith e (some (.Attribute o a p)) l env = pure false := by
  cases e <;> rfl
theorem test_plain {e : Expr} (h : nTest e = true) (env : Env) (whole : Sem Value) : isTrue e env whole = (do let v ← whole; standAt e.pos; holding [v] (truthy v)) := by
  cases e with
  | UnaryOp op a p => cases op <;> first | rfl | (cases h)
  | _ => first | rfl | (cases h)
theorem assign_cons {e : Expr} (h : nStar e = true) (es : List Expr) (env : Env) : assignEach (e :: es) env = (false, assign e env) :: assignEach es env := by
  cases e <;> first | rfl | (cases h)
theorem sub_assign {o i : Expr} {pos : Pos} {env : Env} (h : nSl i = true) (v : Value) : assign (.Subscript o i pos) env v = (do
    let ov ← holding [v] (eval o env)
    let iv ← holding [v, ov] (eval i env)
    standAt pos
    holding [v, ov, iv] (setItem ov iv v)
    release [v, ov, iv] []) := by
  cases i <;> first | rfl | (cases h)
theorem swapped_fold {ts vs : List Expr} {kt kv : Nat} {pt pv : Pos} {env : Env} (h : (vs.all (foldedForSure 8) || !(ts.length == 2 || ts.length == 3)) = true) : swappedStores [.Tuple ts kt pt] (.Tuple vs kv pv) env = pure none := by
  unfold swappedStores
  dsimp only
  split
  · rfl
  · rename_i h1
    have h2 : vs.all (foldedForSure 8) = true := by
      rcases (Bool.or_eq_true _ _).mp h with h | h
      · exact h
      · exfalso
        apply h1
        rw [h]
        rfl
    split
    · rfl
    · split
      · rfl
      · first | rfl | rw [if_pos h2]
theorem swapped_plain {tg e : Expr} {env : Env} (h : (nPair tg || nPair e || foldB tg e) = true) : swappedStores [tg] e env = pure none := by
  cases tg <;> first
    | rfl
    | (cases e <;> first
        | rfl
        | exact swapped_fold h
        | (cases h))
theorem meth_tree {X : Cx} {o : Expr} {m : Str} {apos pos : Pos} {args : List Expr} (hb : nBase o = true) (hn : decide (args.length < 30) = true) (hl : (apos.endLine == pos.line) = true) (ha : args.all nStar = true) :
    MethTree X o m apos args pos := by
  refine ⟨do return (← importBound o X.env).getD true, ?_⟩
  show (do
    let ov ← attributeBase o m X.env (eval o X.env)
    standAt apos.atName
    methodCall o m apos pos X.env ov (args.length + 0) (backTo pos (starEach args X.env)) (backToKw pos (keywordEach [] X.env))) = _
  rw [attr_plain hb]
  have e1 : methodCallForm (args.length + 0) (backTo pos (starEach args X.env)) (backToKw pos (keywordEach [] X.env)) = true := by
    unfold methodCallForm
    rw [backTo_all ha]
    simpa [keywordEach, backToKw] using of_decide_eq_true hn
  have e2 : methodCallPos true o X.env apos pos = pure pos := by
    unfold methodCallPos
    rw [hl]
    rfl
  unfold methodCall
  rw [e1, e2]
  rfl
theorem swap_cell {tg e : Expr} {env : Env} (h : cellT env.scope tg = true) (l : Nat) : swapsWith e (some tg) l env = pure false := by
  cases tg with
  | Name x px =>
    have h2 : (env.kindOf x == some .local) = false := by
      unfold cellT at h
      simp only [Bool.not_eq_true', decide_eq_false_iff_not] at h
      simpa [Env.kindOf] using h
    cases e <;> first | rfl | (show pure (env.blockKind == .function && env.kindOf x == some .local && _ && _) = pure false; rw [h2]; simp)
  | _ => cases e <;> rfl
theorem swapped_2 {x y : Str} {px py pt pt2 : Pos} {kt k2 : Nat} {a b : Expr} {env : Env} (h : parB env.scope [(x, px), (y, py)] [a, b] = true) : swappedStores [.Tuple [.Name x px, .Name y py] kt pt] (.Tuple [a, b] k2 pt2) env = pure (some [x, y]) := by
  unfold parB noStars at h
  simp only [Bool.and_eq_true, Bool.not_eq_true', List.all_cons, List.all_nil, decide_eq_true_eq, Bool.and_true, List.head?_cons, Option.map_some, Option.getD_some, beq_self_eq_true, true_and] at h
  obtain ⟨⟨⟨⟨⟨⟨h1, hx, hy⟩, ly⟩, h5⟩, h6⟩, h7⟩, h8⟩ := h
  have hb : env.blockKind = .function := by unfold Env.blockKind; rw [h1]; rfl
  have kx : env.kindOf x = some .local := hx
  have ky : env.kindOf y = some .local := hy
  have ly : py.line = px.line := by simpa using ly
  have h5 : [x, y].eraseDups.length = 2 := h5
  have e : ([Expr.Name x px, Expr.Name y py].filterMap fun | .Name id pos => if (env.kindOf id == some .local && pos.line == px.line) = true then some id else none | _ => none) = [x, y] := by
    simp [kx, ky, ly]
  show (if (!(2 == 2 || 2 == 3) || 2 != 2 || env.blockKind != ScopeKind.function) = true then _ else _) = _
  rw [hb, if_neg (by decide)]
  refine (if_neg (fun q => absurd (h6.symm.trans q) (by decide))).trans ?_
  refine (if_neg (fun q => ?_)).trans ?_
  · have q : (([Expr.Name x px, Expr.Name y py].filterMap fun | .Name id pos => if (env.kindOf id == some .local && pos.line == px.line) = true then some id else none | _ => none).length != 2 || ([Expr.Name x px, Expr.Name y py].filterMap fun | .Name id pos => if (env.kindOf id == some .local && pos.line == px.line) = true then some id else none | _ => none).eraseDups.length != ([Expr.Name x px, Expr.Name y py].filterMap fun | .Name id pos => if (env.kindOf id == some .local && pos.line == px.line) = true then some id else none | _ => none).length) = true := q
    rw [e, h5] at q
    simp at q
  refine (if_neg (fun q => by simp only [List.all_cons, List.all_nil, Bool.and_true] at q; rw [h7] at q; exact absurd q (by decide))).trans ?_
  refine (if_neg (fun q => by simp only [List.all_cons, List.all_nil, Bool.and_true] at q; rw [h8] at q; exact absurd q (by decide))).trans ?_
  exact congrArg (fun l => pure (some l)) e
theorem swapped_3 {x y z : Str} {px py pz pt pt2 : Pos} {kt k2 : Nat} {a b c : Expr} {env : Env} (h : parB env.scope [(x, px), (y, py), (z, pz)] [a, b, c] = true) : swappedStores [.Tuple [.Name x px, .Name y py, .Name z pz] kt pt] (.Tuple [a, b, c] k2 pt2) env = pure (some [x, y, z]) := by
  unfold parB noStars at h
  simp only [Bool.and_eq_true, Bool.not_eq_true', List.all_cons, List.all_nil, decide_eq_true_eq, Bool.and_true, List.head?_cons, Option.map_some, Option.getD_some, beq_self_eq_true, true_and] at h
  obtain ⟨⟨⟨⟨⟨⟨h1, hx, hy, hz⟩, ly, lz⟩, h5⟩, h6⟩, h7⟩, h8⟩ := h
  have hb : env.blockKind = .function := by unfold Env.blockKind; rw [h1]; rfl
  have kx : env.kindOf x = some .local := hx
  have ky : env.kindOf y = some .local := hy
  have kz : env.kindOf z = some .local := hz
  have ly : py.line = px.line := by simpa using ly
  have lz : pz.line = px.line := by simpa using lz
  have h5 : [x, y, z].eraseDups.length = 3 := h5
  have e : ([Expr.Name x px, Expr.Name y py, Expr.Name z pz].filterMap fun | .Name id pos => if (env.kindOf id == some .local && pos.line == px.line) = true then some id else none | _ => none) = [x, y, z] := by
    simp [kx, ky, kz, ly, lz]
  show (if (!(3 == 2 || 3 == 3) || 3 != 3 || env.blockKind != ScopeKind.function) = true then _ else _) = _
  rw [hb, if_neg (by decide)]
  refine (if_neg (fun q => absurd (h6.symm.trans q) (by decide))).trans ?_
  refine (if_neg (fun q => ?_)).trans ?_
  · have q : (([Expr.Name x px, Expr.Name y py, Expr.Name z pz].filterMap fun | .Name id pos => if (env.kindOf id == some .local && pos.line == px.line) = true then some id else none | _ => none).length != 3 || ([Expr.Name x px, Expr.Name y py, Expr.Name z pz].filterMap fun | .Name id pos => if (env.kindOf id == some .local && pos.line == px.line) = true then some id else none | _ => none).eraseDups.length != ([Expr.Name x px, Expr.Name y py, Expr.Name z pz].filterMap fun | .Name id pos => if (env.kindOf id == some .local && pos.line == px.line) = true then some id else none | _ => none).length) = true := q
    rw [e, h5] at q
    simp at q
  refine (if_neg (fun q => by simp only [List.all_cons, List.all_nil, Bool.and_true] at q; rw [h7] at q; exact absurd q (by decide))).trans ?_
  refine (if_neg (fun q => by simp only [List.all_cons, List.all_nil, Bool.and_true] at q; rw [h8] at q; exact absurd q (by decide))).trans ?_
  exact congrArg (fun l => pure (some l)) e
end DI

/-! DI, part 5x: an exception of the program whose own __init__ says super().__init__(text) and keeps one field. -/
namespace DI
open L2
open PySem.Spec
open PyProof.Rows hiding St
open PySem

/-- the trees of such an __init__ -/
structure SupTxt where
  m : Str
  x : Str
  f : Str
  j : Nat
  (p0 p1 p2 p3 p4 p5 q1 q2 q3 q4 q5 : Pos)
def SupTxt.body (t : SupTxt) : List Stmt :=
  [.Expr (.Call (.Attribute (.Call (.Name "super" t.p0) [] [] t.p1) "__init__" t.p2) [.Constant (.str t.m) t.j t.p3] [] t.p4) t.p5,
   .Assign [.Attribute (.Name "self" t.q1) t.f t.q2] (.Name t.x t.q3) t.q4]
/-- what the written part and the trees say of the class at C -/
structure ExCls (P : Program) (K : PySem.W.Frag) (C : Addr) (f : Str) : Prop where
  oe : OexC K C
  xf : XfC K C
  no : PySem.W.findIn K (.ref C) f = some none
  fn : ∃ (fI cc cda : Addr) (T : SupTxt) (qual : Str) (params : Arguments) (scope : Scope) (dV kV doc pm ct oc ccl cl : Value) (an od cdd cld : Option Addr) (osl ccs csl : Array (Option Value)) (vs : Array Value) (file : Str) (tf : Tok) (ar : Arg),
    PySem.W.findIn K (.ref C) "__init__" = some (some (.ref fI)) ∧ PySem.W.typeIn K (.ref fI) = some (.type "function") ∧ T.f = f ∧
    K.lookup fI = some ⟨oc, od, .func (PySem.W.ksFn "__init__" qual params T.body scope dV kV doc pm an (.ref cda) ct cc), osl⟩ ∧ PySem.W.codeIn K (.ref cda) qual = true ∧
    K.lookup cda = some ⟨ccl, cdd, .fields vs, ccs⟩ ∧ vs[2]? = some (.str file tf) ∧ ((P.main.file : Str) == file) = true ∧
    K.lookup cc = some ⟨cl, cld, .cell (some (.ref C)), csl⟩ ∧ PySem.W.nsIn K mainGlobals "super" = some none ∧ (P.main.scope.names.lookup ("super" : Str)).isSome = false ∧
    PySem.W.ks_superIn K C C "__init__" = some (some (.builtin "ValueError.__init__")) ∧ PySem.W.mroIn K C (.ref C) = some true ∧ PySem.W.subIn K (.ref C) (.type "ValueError") = some true ∧
    PySem.W.nsIn K cStatics "thirdparty.any" = some none ∧
    (params.posonlyargs ++ params.args).head? = some ar ∧ ar.arg = "self" ∧ (T.p2.endLine == T.p4.line) = true ∧ T.x ≠ "self" ∧ (T.x == ("__debug__" : Str)) = false ∧
    scope.names.lookup ("super" : Str) = some .globalImplicit ∧ scope.names.lookup ("__class__" : Str) = some .free ∧ scope.names.lookup ("self" : Str) = some .local ∧ scope.names.lookup T.x = some .local ∧
    (∀ y ∈ scope.names, y.2 ≠ .cell) ∧ scope.isCoroutine = false ∧ scope.isGenerator = false ∧ scope.kind = .function ∧
    (∀ (kV doc pm : Value) (an : Option Addr) (cdv ct : Value) (cc : Addr) (a b : Value), bindArgs (PySem.W.ksFn "__init__" qual params T.body scope .none kV doc pm an cdv ct cc) ⟨[a, b], []⟩ = pure [(("self" : Str), a), (T.x, b)]) ∧ dV = .none

section
variable {prog : Program} {w : World} {A : Around} {E : Value → Shared → Prop} {h : Heap} {g : Array GenState} {d : Drawn} {t : Nat} {os : OsState}
variable {nm q : Str} {C N : Addr} {bs bm : List Value} {hdct : Bool} {sn : List Str} {sub : List Value} {ab : Bool} {col : Option Bool} {dd : Option Addr} {k0 k1 k2 k3 k5 : Option Value}
/-- the bound __init__ of ValueError, called -/
theorem sup_bound {u e t0 : Addr} {rest : List Value} {Q : Value → Shared → Prop}
    (hC : h.get? C = some (excClassObj nm q C N bs bm hdct sn sub ab col dd k0 k1 k2 k3 k5 "ValueError.__new__")) (he : h.get? e = some (PySem.HandSPX.excO C t0)) (hu : h.get? u = some (PySem.W.kxs_mw "ValueError.__init__" e)) (hz : rest.length ≤ sizeLine)
    (fin : ∀ h' t1, (∀ b o, b ≠ e → h.get? b = some o → h'.get? b = some o) → h'.get? e = some (PySem.HandSPX.excO C t1) → Q .none ⟨h', g, d, t, os⟩) :
    wpAny (model prog w) A (call (.ref u) rest) Q E ⟨h, g, d, t, os⟩ := by
  have FB := PySem.F.excBase_ValueError
  refine wpAny_call (codeAny_of_tree (show wpAny (model prog w) A.in1 (callAny (.ref u) ⟨rest, []⟩) _ _ _ from ?_))
  unfold callAny; dsimp only
  refine wpAny_bind (wpAny_load hu ?_)
  have hk : (Value.type "method-wrapper" == Value.type "method" || Value.type "method-wrapper" == Value.type "builtin_function_or_method" || Value.type "method-wrapper" == Value.type "method-wrapper") = true := by decide
  simp only [PySem.W.kxs_mw, hk, if_true]
  refine PySem.W.KFB.if_so (by decide) ?_
  refine wpAny_bind (PySem.W.check_bound_init FB.toExcCallFacts hC he rfl (wpAny_bind (wpAny_pure (wpAny_pure ⟨plainId_quiet FB.init.plain _, codeAny_builtin FB.initEntry ?_⟩))))
  exact PySem.W.exc_init_tree (cls := .ref C) (t0 := t0) (dv := none) (c2 := .none) (c3 := .none) (b4 := .bool false) he hz fun h' k h1 _ => fin h' _ k h1
end

theorem sup_tree {o c : Expr} {m : Str} {apos pos : Pos} {env : Env} (hc : nStar c = true) (hl : (apos.endLine == pos.line) = true) :
    eval (.Call (.Attribute o m apos) [c] [] pos) env = (do
      let ov ← attributeBase o m env (eval o env)
      standAt apos.atName
      let (f, first) ← holding [ov] (getMethod ov m (do return (← importBound o env).getD true))
      callWith pos f first (backTo pos (starEach [c] env)) []) := by
  show (do
    let ov ← attributeBase o m env (eval o env)
    standAt apos.atName
    methodCall o m apos pos env ov ([c].length + 0) (backTo pos (starEach [c] env)) (backToKw pos (keywordEach [] env))) = _
  have hs : [c].all nStar = true := by rw [List.all_cons, hc]; rfl
  have e1 : methodCallForm ([c].length + 0) (backTo pos (starEach [c] env)) (backToKw pos (keywordEach [] env)) = true := by
    unfold methodCallForm
    rw [backTo_all hs]
    simp [keywordEach, backToKw]
  have e2 : methodCallPos true o env apos pos = pure pos := by unfold methodCallPos; rw [hl]; rfl
  unfold methodCall
  rw [e1, e2]
  rfl
/-- the __init__, run -/
theorem sup_init {P : Program} {w : World} {K : PySem.W.Frag} {mg : Str → Option Value} {base : Heap} {A : Around} {outer : List Env} {s : Shared} {H : Hp} {C e t0 fI : Addr} {f : Str} {u : Value} {R : Result → Shared → Prop}
    (X : ExCls P K C f) (hI : PySem.W.findIn K (.ref C) "__init__" = some (some (.ref fI))) (e0 : Env0 P w K mg base A outer s H) (hroom : A.depth < recursionLimit) (he : s.heap.get? e = some (PySem.HandSPX.excO C t0)) (hKe : K.lookup e = none)
    (hq : ∀ h' tk' dx t1, (∀ b o, b ≠ e → s.heap.get? b = some o → h'.get? b = some o) → s.heap.objs.size ≤ dx → dx ≠ e → h'.get? e = some { cls := .ref C, dict := some dx, data := .fields #[.ref t1, .none, .none, .none, .bool false, .none] } →
      h'.Ns1 dx (fun y => if y = f then some u else none) → R (.ok (.ret .none)) { s with heap := h', toks := tk' }) :
    codeAny (model P w) A (.call (.ref fI) ⟨[.ref e, u], []⟩) R s := by
  obtain ⟨⟨nm, q, N, bs, bm, sn, sub, ab, col, dd, k0, k1, k2, k3, k5, hC, hbm⟩, sa, exC, tyC, kC⟩ := X.oe
  obtain ⟨fI', cc, cda, T, qual, params, scope, dV, kV, doc, pm, ct, oc, ccl, cl, an, od, cdd, cld, osl, ccs, csl, vs, file, tf, ar, hi', hty, hTf, lk, hcd, hcode, hvs, hfile, hcell, hsup, htop, hsi, hmro, hVE, hthird, har, harg, hline, hxs, hxd, sSup, sCls, sSelf, sX, hnc, hco, hgen, hkind, hbind, hdV⟩ := X.fn
  have ef : fI' = fI := by rw [hI] at hi'; cases hi'; rfl
  subst ef
  subst hTf
  subst hdV
  have kept : ∀ b o, base.get? b = some o → s.heap.get? b = some o := fun b o z => (e0.bs b o z).1
  have KX : K.In s.heap := e0.mod.kin.keeps kept
  have lim : s.heap.NoLimit := e0.mod.nolimit.keeps kept
  have hNs : s.heap.Ns mainGlobals mg := e0.mod.glob.keeps kept
  obtain ⟨mb, hb1, hb2⟩ := e0.mod.blt
  have hBs : s.heap.Ns builtinsNs mb := hb1.keeps kept
  have hcls : PySem.W.clsIn K C = some { name := nm, bases := bs, mro := .ref C :: bm, ns := N, qualname := q, hasDict := true, slotNames := sn, subclasses := sub, abstract := ab, collection := col, hasDel := false } := by unfold PySem.W.clsIn; rw [hC] <;> rfl
  have hloc : ∀ y ∈ [(("self" : Str), Value.ref e), (T.x, u)], scope.names.lookup y.1 = some .local := by
    intro y hy
    simp only [List.mem_cons, List.not_mem_nil, or_false] at hy
    rcases hy with rfl | rfl
    · exact sSelf
    · exact sX
  refine PySem.ks_codeAny_call_defAt (fd := PySem.W.ksFn "__init__" qual params T.body scope .none kV doc pm an (.ref cda) ct cc) (body := T.body) (binds := [(("self" : Str), .ref e), (T.x, u)]) hroom (KX _ _ lk) rfl lim (PySem.W.codeRec_of KX hcd) rfl (.of_eq (hbind _ _ _ _ _ _ _ _ _)) hnc hloc (fun h₁ hns k₁ => ?_) hco hgen hkind
  have K1 : K.In h₁ := KX.keeps k₁
  have he1 := k₁ _ _ he
  have eC : e ≠ C := by
    rintro rfl
    have z := (KX _ _ hC).symm.trans he
    cases z
  obtain ⟨oD, hD1, hD2⟩ : ∃ oD, h₁.get? C = some oD ∧ ∃ cd, oD.data = .cls cd := ⟨_, K1 _ _ hC, _, rfl⟩
  obtain ⟨cdD, hD2⟩ := hD2
  have I1 : PySem.W.InstAt h₁ e (PySem.HandSPX.excO C t0) C none := ⟨he1, rfl, rfl, trivial⟩
  have hself : (fun x => ([(("self" : Str), Value.ref e), (T.x, u)] : List (Str × Value)).reverse.lookup x) ("self" : Str) = some (.ref e) := by
    show List.lookup ("self" : Str) ([(T.x, u), (("self" : Str), Value.ref e)] : List (Str × Value)) = _
    have : (("self" : Str) == T.x) = false := by simpa using Ne.symm hxs
    simp [List.lookup, this]
  have hxv : (fun x => ([(("self" : Str), Value.ref e), (T.x, u)] : List (Str × Value)).reverse.lookup x) T.x = some u := by
    show List.lookup T.x ([(T.x, u), (("self" : Str), Value.ref e)] : List (Str × Value)) = _
    simp [List.lookup]
  have eL : e ≠ s.heap.objs.size := Nat.ne_of_lt (Heap.lt_size he)
  have hint : interactive (callEnv (PySem.W.ksFn "__init__" qual params T.body scope .none kV doc pm an (.ref cda) ct cc) s.heap.objs.size fI') = false := by
    show (scope.kind == ScopeKind.module && _) = false
    rw [hkind]
    rfl
  refine PySem.ks_wpAt_execs_cons (PySem.ks_wpAt_Expr_any (PySem.ks_wpAt_MethodCall (pl := do return (← importBound (.Call (.Name "super" T.p0) [] [] T.p1) (callEnv (PySem.W.ksFn "__init__" qual params T.body scope .none kV doc pm an (.ref cda) ct cc) s.heap.objs.size fI')).getD true) (PySem.ks_wpAt_super_base (f := fI') (cc := cda) (ar := ar) sSup sCls (by decide +kernel) rfl (K1 _ _ lk) rfl har rfl (K1 _ _ hcode) rfl hvs hfile htop ?_) (sup_tree rfl hline)) hint rfl)
  · refine PySem.W.ks_loadName_global hkind sSup (Calls.loadGlobal_builtin (hNs.keeps k₁) (PySem.W.mg_none_of KX hNs hsup) (hBs.keeps k₁) ((hb2 _ (by decide +kernel)).trans (show bootBuiltins "super" = some (.type "super") by decide +kernel)) ⟨rfl, ?_⟩)
    refine wpAny_loadName_free hkind sCls rfl ⟨_, K1 _ _ hcell, rfl⟩ ?_
    rw [harg]
    refine wpAny_loadName_local hkind sSelf hns hself ?_
    refine PySem.ks_wpAny_isType_cls hD1 hD2 ⟨rfl, ?_⟩
    refine PySem.ks_wpAny_call_super hD1 hD2 he1 rfl (fun c z => by cases z) (PySem.W.looks_mroIn K1 hmro) fun h₂ hso k₂ => ?_
    have K2 : K.In h₂ := K1.keeps k₂
    have I2 : PySem.W.InstAt h₂ e (PySem.HandSPX.excO C t0) C none := ⟨k₂ _ _ he1, rfl, rfl, trivial⟩
    have hsi' : PySem.W.alongIn K "__init__" (((Value.ref C :: bm).dropWhile (· != .ref C)).drop 1) = some (some (.builtin "ValueError.__init__")) := by
      have z := hsi
      unfold PySem.W.ks_superIn at z
      rw [hcls] at z
      exact z
    refine PySem.W.kxs_getMethod PySem.W.kxs_ValueError hso (PySem.W.looks_opaque K2 hthird) (l₀ := .ref C :: bm) (fun A Q E s k q => wpAny_bind ((PySem.W.looks_clsIn K2 hcls) A _ E s k (wpAny_pure q))) rfl K2 hsi' (I2.type.andThen (PySem.W.looks_subIn K2 hVE)) eC (by decide +kernel) ?_
    refine PySem.W.kxs_callWith (i := "ValueError.__init__") (x := e) (by rfl) (Calls.evalArgs_plain (Calls.spliced_cons (Calls.Constant_str (k := T.j) (pos := T.p3) (Calls.spliced_nil ⟨?_, ?_⟩))))
    · exact Heap.get?_push_at rfl rfl
    have K3 : K.In (h₂.push (PySem.W.kxs_mw "ValueError.__init__" e)) := K2.keeps fun b o z => Heap.get?_push_of_some _ z
    refine sup_bound (K3 _ _ hC) (Heap.get?_push_of_some _ (k₂ _ _ he1)) (Heap.get?_push_at rfl rfl) (by show 1 ≤ sizeLine; decide) fun h₄ t1 k₄ he4 => ?_
    have k14 : ∀ b o, b ≠ e → h₁.get? b = some o → h₄.get? b = some o := fun b o hb z => k₄ b o hb (Heap.get?_push_of_some _ (k₂ _ _ z))
    refine PySem.ks_wpAt_execs_cons (PySem.ks_wpAt_Assign_Attr ?_ rfl)
    have hns4 : h₄.Ns s.heap.objs.size fun x => ([(("self" : Str), Value.ref e), (T.x, u)] : List (Str × Value)).reverse.lookup x := hns.at fun o z => k14 _ o (Ne.symm eL) z
    refine wpAt_of_wpAny (wpAny_Name (wpAny_loadName_local hkind sX hns4 hxv ?_) hxd)
    refine wpAny_Name (wpAny_loadName_local hkind sSelf hns4 hself ?_) (by decide)
    have K4 : K.In h₄ := fun b o z => k14 b o (fun y => by
      rw [y, hKe] at z
      cases z) (K1 b o z)
    refine PySem.W.set_plain K4 (ox := PySem.HandSPX.excO C t1) (od := none) ⟨he4, rfl, rfl, trivial⟩ sa ?_
    refine PySem.HandSPX.exc_osa K4 he4 hcls (show PySem.HandSPX.refsVE (.ref C :: bm) = true from hbm) rfl X.no (fun h₅ tk' dx k₅ dn dne hx hn => ?_)
    have k15 : ∀ b o, b ≠ e → s.heap.get? b = some o → h₅.get? b = some o := fun b o hb z => k₅ b o hb (k14 b o hb (k₁ b o z))
    have hsz : s.heap.objs.size ≤ dx := by
      obtain ⟨oL, esL, epL, hoL, _⟩ := hns4
      exact Nat.le_trans (Nat.le_of_lt (Heap.lt_size hoL)) dn
    exact wpAt_of_wpAny (wpAny_pure (hq h₅ tk' dx t1 k15 hsz dne hx hn))
theorem pmk_sup {X : Cx} {k : Nat} {x f : Str} {C : Addr} {p pos : Pos} {e : Expr} {es : List Expr} {ta : TA} (T : ExCls X.prog X.K C f) (hr : Room (k + 1) X.A) (hg : Gl X x) (hm : X.mg x = some (.ref C)) (ha : PA X (e :: es) ta)
    (hdb : (x == ("__debug__" : Str)) = false) (he : starEach (e :: es) X.env = (false, eval e X.env) :: starEach es X.env) (hpl : (backTo pos (starEach es X.env)).any (·.1) = false) :
    PMk X (.Call (.Name x p) (e :: es) [] pos) (tRai C f ta) := by
  intro pins s σ H Q I h
  have T0 := T
  obtain ⟨⟨nm, q, N, bs, bm, sn, sub, ab, col, dd, k0, k1, k2, k3, k5, hC, hbm⟩, sa, exC, tyC, kC⟩ := T.oe
  obtain ⟨fI, _, _, _, _, _, _, _, _, _, _, _, _, _, _, _, _, _, _, _, _, _, _, _, _, _, iC, tI, _⟩ := T.fn
  refine wpAny_Call_Name_kw (ld_glob I hg hm ?_ hdb)
  refine PySem.W.callWith_K (h₀ := X.base) I.ok.mod.kin kC (thn (ha.run pos pins s σ H _ I h) fun us s1 ⟨vs, H1, I1, r1, y, ev, q1⟩ => ⟨I1.kIn, ?_⟩) he hpl
  subst ev
  obtain ⟨u, rfl, ru⟩ := vals1 r1
  show wpAny _ _ (call (.ref C) [u]) _ _ _
  obtain ⟨hp, g, dr, tk, os⟩ := s1
  have hsz : hp.objs.size ≤ hp.objs.size + 1 := Nat.le_succ _
  generalize ea : hp.objs.size + 1 = a at hsz
  have hn : H1 a = none := I1.hok.fresh hsz
  have kk : ∀ b o, hp.get? b = some o → ((hp.push (PySem.W.kdv_tup [u])).push (PySem.HandSPX.excO C hp.objs.size)).get? b = some o := fun b o z => Heap.get?_push_of_some _ (Heap.get?_push_of_some _ z)
  have hget : ((hp.push (PySem.W.kdv_tup [u])).push (PySem.HandSPX.excO C hp.objs.size)).get? a = some (PySem.HandSPX.excO C hp.objs.size) := by subst ea; heap_get
  have I2 : Inv X pins σ (upd H1 a (exo a C none)) ⟨(hp.push (PySem.W.kdv_tup [u])).push (PySem.HandSPX.excO C hp.objs.size), g, dr, tk, os⟩ := I1.laid (t' := tk) (a := a) (o := exo a C none) kk hsz (exo_ok hget)
  have hKa : X.K.lookup a = none := by
    cases z : X.K.lookup a with
    | none => rfl
    | some o => exact absurd (Heap.lt_size (I1.kIn _ _ z)) (Nat.not_lt_of_le hsz)
  have call := PySem.HandSPX.call_own (rest := [u]) (A := X.A) (R := fun r s' => match r with | .ok (.ret v) => MkP X pins σ Q v s' | _ => False) (g := g) (d := dr) (t := tk) (os := os) PySem.F.excBase_ValueError (fun Y => PySem.HandSPX.refsVE_contains Y bm hbm) (I1.kIn _ _ hC) (PySem.W.looks_findIn I1.kIn iC) (fun self => PySem.W.bind_fn I1.kIn self tI) (show 1 ≤ sizeLine by decide)
    (sup_init (e := hp.objs.size + 1) (t0 := hp.objs.size) (f := f) (u := u) T iC (I2.env0.make C [u] []) (hr.make C [u] []).depth (by rw [ea]; exact hget) (by rw [ea]; exact hKa) fun h' tk' dx t1 kd dn dne hx hns => ?_)
  · refine wpAny_call (codeAny_mono call fun r s' z => ?_)
    split at z
    · exact z
    · exact z.elim
  rw [ea] at kd dne hx
  refine ⟨rfl, ?_⟩
  have hnd : H1 dx = none := I2.hok.fresh dn |> fun z => by rwa [upd_ne dne] at z
  have nd : ∀ {b : Addr} {o : Obj}, ((hp.push (PySem.W.kdv_tup [u])).push (PySem.HandSPX.excO C hp.objs.size)).get? b = some o → b ≠ dx := fun {b o} z => Nat.ne_of_lt (Nat.lt_of_lt_of_le (Heap.lt_size z) dn)
  have ea2 : upd H1 a (exo a C none) a = some (exo a C none) := upd_same
  have hnd2 : upd H1 a (exo a C none) dx = none := by rw [upd_ne dne]; exact hnd
  have na : ∀ {b : Addr}, upd H1 a (exo a C none) b = none → b ≠ a := fun {b} n z => by rw [z, upd_same] at n; cases n
  have un : Un (frs X.stack) [] (upd H1 a (exo a C none)) (upd (upd (upd H1 a (exo a C none)) dx (exd dx [(f, y)])) a (exo a C (some dx))) ((hp.push (PySem.W.kdv_tup [u])).push (PySem.HandSPX.excO C hp.objs.size)) h' := {
    keep := fun b o z n _ _ => kd b o (na n) z
    slot := fun b o z n _ _ => ⟨o.slots, kd b o (na n) z⟩
    free := fun b o z n _ => by rw [upd_ne (na n), upd_ne (nd z)]; exact n
    there := fun b o z _ => (Decidable.em (b = a)).elim (fun hb => ⟨_, hb ▸ hx⟩) fun hb => ⟨o, kd b o hb z⟩
    tups := fun b xs z => by rw [upd_ne (at_ne ea2 z exo_tup), upd_ne (ne_of_none z hnd2)]; exact z
    frzs := fun b o v z => by rw [upd_ne (at_ne ea2 z exo_frz), upd_ne (ne_of_none z hnd2)]; exact z
    tbls := fun b ps z => ⟨#[], by rw [upd_ne (at_ne ea2 z exo_tbl), upd_ne (ne_of_none z hnd2), z]; simp⟩ }
  have hok2 : HOk X.prog X.w (upd (upd (upd H1 a (exo a C none)) dx (exd dx [(f, y)])) a (exo a C (some dx))) h' := fun b o z => by
    by_cases hb : b = a
    · subst hb
      rw [upd_same] at z
      cases z
      exact exo_ok hx
    by_cases hd : b = dx
    · subst hd
      rw [upd_ne hb, upd_same] at z
      cases z
      exact exd_ok hns (relO_put (fs := []) ru fun g => True.intro)
    rw [upd_ne hb, upd_ne hd] at z
    refine (I2.hok b o z).stay (fun c v hc y2 => kd c v ?_ y2) (fun c hc => ?_) fun c xs hc => ?_
    · rcases hc with hc | hc
      · rw [hc]; exact hb
      · exact at_ne ea2 hc exo_own
    · rw [upd_ne (at_ne ea2 hc exo_own), upd_ne (ne_of_none hc hnd2)]; exact hc
    · rw [upd_ne (at_ne ea2 hc exo_tup), upd_ne (ne_of_none hc hnd2)]; exact hc
  have hfin : upd (del (upd (upd (upd H1 a (exo a C none)) dx (exd dx [(f, y)])) a (exo a C (some dx))) a) dx (.xd [(f, y)]) = upd H1 dx (.xd [(f, y)]) := by
    funext b
    by_cases hd : b = dx
    · subst hd; rw [upd_same, upd_same]
    rw [upd_ne hd, upd_ne hd]
    by_cases hb : b = a
    · subst hb; rw [del_same]; exact hn.symm
    rw [del_ne hb, upd_ne hb, upd_ne hd, upd_ne hb]
  show MkP X pins σ Q (.ref (hp.objs.size + 1)) _
  rw [ea]
  exact mk_end (raises_own exC tyC) I1 hsz kk un hok2 rfl I1.bare upd_same (by rw [upd_ne dne, upd_same]) hnd (by rw [hfin]; exact q1 dx hnd)
/-- isinstance(e, c), e the exception with a dict of its own that the suite holds -/
theorem call_isED {X : Cx} {a D dd : Addr} {oe : Obj} {pn : List (Addr × Obj)} (C : ExcC X.K D) (hz : Zc (.ref D) (some dd) oe) (hf : ∃ vs, oe.data = .fields vs) :
    CallR (X.suite a ((a, oe) :: pn)) (.builtin "isinstance") fun xs H Q => ∃ (c : V) (cv : Value) (fs : List (Str × V)) (b : Bool), xs = [.ref a, c] ∧ (∀ u, RelV c u → u = cv) ∧ H dd = some (.xd fs) ∧ PySem.W.kitOne X.K (.ref D) cv = some b ∧ Q (.bl b) H := by
  intro pins s σ H xs us Q I r h
  obtain ⟨c, cv, fs, b, rfl, hcv, hdd, e, q⟩ := h
  cases r with
  | cons rx rr =>
    cases rr with
    | cons rt rr =>
      cases rr
      cases rx
      have ec := hcv _ rt
      subst ec
      obtain ⟨hget, _⟩ := I.pin (a, oe) (List.mem_append.mpr (.inl List.mem_cons_self))
      obtain ⟨vs, hv⟩ := hf
      have hx : ObjOk X.prog X.w H s.heap dd (.xd fs) := I.hok dd _ hdd
      obtain ⟨mA, hns, _⟩ := hx
      obtain ⟨od, ho, _⟩ := lookIn_ns hns
      have J : PySem.W.InstAt s.heap a oe D (some od) := ⟨hget, hz.1, by unfold PySem.W.notCls; rw [hv] <;> rfl, by rw [hz.2]; exact ho⟩
      have hcl : (PySem.W.clsIn X.K D).isSome = true := by
        have := C.hd
        unfold PySem.W.hasDictIn at this
        cases z : PySem.W.clsIn X.K D with
        | none => rw [z] at this; cases this
        | some cd => rfl
      exact PySem.W.kia_one (PySem.W.kitx_exc hcl C.hg C.hk C.hs C.ha C.hn C.ht C.hm) I.kIn J e (fun z => nomatch z) fun tk => ⟨.bl b, H, I.kept (t' := tk) fun _ _ z => z, rfl, q⟩
end DI

/-! DI, part 6: the reading of a code that is looked at is right. -/
namespace DI
open L2
open PySem.Spec
open PyProof.Rows hiding St
open PySem

def btNames : List Str := ["len", "int", "str", "abs", "max", "min", "sum", "list", "tuple", "sorted", "all", "any", "isinstance", "repr", "bool", "dict", "range", "enumerate", "zip", "reversed", "super", "ValueError"]
structure Facts (P : Program) (w : World) (mg : Str → Option Value) (base : Heap) (m : Nat) (v : Ev) (fa : Nat → Addr) (t : CK) : Prop where
  fn : ∀ f, (f ∈ t.calls ∨ (∃ C nm, (C, f, nm) ∈ t.mths) ∨ ∃ C, (C, f) ∈ t.mks) → ∃ fd ps, FnG P w v.K mg base m (fa f) fd ps (v.sp f) ∧ Bnd v.K fd ps (t.kw f)
  calls : ∀ f ∈ t.calls, mg (t.fn f) = some (.ref (fa f)) ∧ PySem.W.keepIn v.K (.ref (fa f)) = true
  mths : ∀ q ∈ t.mths, Cls v.K (v.cls q.1) ∧ Meth v.K (v.cls q.1) q.2.2 (fa q.2.1)
  mks : ∀ q ∈ t.mks, mg (t.cn q.1) = some (.ref (v.cls q.1)) ∧ Mk v.K (v.cls q.1) (fa q.2)
  flds : ∀ q ∈ t.flds, Cls v.K (v.cls q.1) ∧ NoAttr v.K (v.cls q.1) q.2
  gls : ∀ i ∈ t.gls, ∃ u, mg (t.gn i) = some u ∧ RelV (v.gv i) u
  bts : ∀ x ∈ btNames, mg x = none
  exs : ∀ q ∈ t.exs, mg (t.cn q.1) = some (.ref (v.cls q.1)) ∧ ExCls P v.K (v.cls q.1) q.2 ∧ ExcC v.K (v.cls q.1)
  bss : ∀ C ∈ t.bases, mg (t.cn C) = some (.ref (v.cls C))
  vxs : v.exs = t.exs
  sysm : SysM base
theorem Facts.sc {P : Program} {w : World} {mg : Str → Option Value} {base : Heap} {m : Nat} {v : Ev} {fa : Nat → Addr} {t : CK} (F : Facts P w mg base m v fa t) (sc : Scope) (b : Bool) (l : List (Str × NameKind)) :
    Facts P w mg base m v fa { t with sc := sc, blk := b, bn := l } := ⟨F.fn, F.calls, F.mths, F.mks, F.flds, F.gls, F.bts, F.exs, F.bss, F.vxs, F.sysm⟩
theorem Facts.hot {P : Program} {w : World} {mg : Str → Option Value} {base : Heap} {m : Nat} {v : Ev} {fa : Nat → Addr} {t : CK} (F : Facts P w mg base m v fa t) (z : Option (Addr × Value × Option Addr)) :
    Facts P w mg base m { v with ex := z } fa { t with hot := true } := ⟨F.fn, F.calls, F.mths, F.mks, F.flds, F.gls, F.bts, F.exs, F.bss, F.vxs, F.sysm⟩

structure Ok (v : Ev) (fa : Nat → Addr) (m : Nat) (t : CK) (X : Cx) (W : WX) : Prop where
  F : Facts X.prog X.w X.mg X.base m v fa t
  K : v.K = X.K
  N : X.N = t.N
  sc : X.env.scope = t.sc
  nd : t.N.Nodup
  calm : t.hot = false → X.calm = true
  room : t.hot = false → RoomG (m + 1) X.A
  grd : X.A.guards = some []
  u65 : X.A.units + 65 < cLine
  tk : t.hot = false → Takes X W
  pas : PassesOwn (model X.prog X.w) X.A X.env X.xe
  fnc : t.blk = false → ∀ x, X.fn x = true
  own : t.blk = true → ∀ x, t.bn.lookup x = some .cell → X.fn x = true
  top : t.blk = false → X.stack = X.env :: X.outer ∧ X.env.frame = some X.env.locals
  suit : t.hot = true → ∃ (X0 : Cx) (a : Addr) (oe : Obj) (pn : List (Addr × Obj)) (cls : Value) (d : Option Addr), X = X0.suite a ((a, oe) :: pn) ∧ v.ex = some (a, cls, d) ∧ Zc cls d oe ∧ ∃ vs, oe.data = .fields vs

theorem PE.imp {X : Cx} {e : Expr} {t t' : TE} (h : PE X e t) (i : ∀ σ H Q, t' σ H Q → t σ H Q) : PE X e t' := ⟨fun pins s σ H Q I q => h.run pins s σ H Q I (i σ H Q q)⟩
theorem PT.imp {X : Cx} {e : Expr} {t t' : TT} (h : PT X e t) (i : ∀ σ H Q, t' σ H Q → t σ H Q) : PT X e t' := ⟨fun pins s σ H Q I q => h.run pins s σ H Q I (i σ H Q q)⟩
theorem PS.imp {X : Cx} {e : Stmt} {t t' : TS} (h : PS X e t) (i : ∀ D σ H, t' D σ H → t D σ H) : PS X e t' := ⟨fun pins s σ H D I q => h.run pins s σ H D I (i D σ H q)⟩
theorem tV_imp {i : Nat} {σ : L2.St} {H : Hp} {Q : VK} (h : tV i σ H Q) : tVar i σ H Q := by
  unfold tV at h
  split at h
  · exact ⟨_, by assumption, h⟩
  · exact h.elim

section
variable {v : Ev} {fa : Nat → Addr} {m : Nat} {t : CK} {X : Cx} {W : WX}
theorem Ok.gl (O : Ok v fa m t X W) {x : Str} (h : glB t.sc x = true) : Gl X x := by
  show X.env.scope.names.lookup x = some .globalImplicit
  rw [O.sc]
  exact of_decide_eq_true h
theorem Ok.bt (O : Ok v fa m t X W) {x : Str} (h : x ∈ btNames) : X.mg x = none := O.F.bts x h
theorem Ok.blk (O : Ok v fa m t X W) (hh : t.hot = false) {scope : Scope} {s : Shared} {H : Hp} {C : Addr} {cl : List (Str × Addr)} {fp : List Addr} :
    Ok v fa m { t with sc := relS scope t.sc, blk := true, bn := scope.names } (X.blk s H scope (compEnvC scope cl C X.env) fp) (fun _ _ _ _ => False) where
  F := O.F.sc _ _ _
  own := fun _ x h => by show (scope.names.lookup x == some .cell) = true; rw [h]; rfl
  K := O.K
  N := O.N
  sc := by
    have h := O.sc
    show relabel scope X.env = relS scope t.sc
    rw [← h]
    rfl
  nd := O.nd
  calm := O.calm
  room := O.room
  grd := O.grd
  u65 := O.u65
  tk := fun _ => takes0
  pas := PassesOwn.never
  fnc := fun h => by cases h
  top := fun h => by cases h
  suit := fun h => by rw [show t.hot = true from h] at hh; cases hh
theorem Ok.clsIn (O : Ok v fa m t X W) {C : Nat} (h : ((t.exs.any fun q => decide (q.1 = C)) || t.bases.contains C) = true) : X.mg (t.cn C) = some (.ref (v.cls C)) := by
  rw [Bool.or_eq_true] at h
  rcases h with h | h
  · rw [List.any_eq_true] at h
    obtain ⟨q, hq, e⟩ := h
    have e := of_decide_eq_true e
    rw [← e]
    exact (O.F.exs q hq).1
  · exact O.F.bss C (by simpa using h)
/-- the body of a try -/
theorem Ok.tr (O : Ok v fa m t X W) {W' : WX} {pn : List (Addr × Obj)} {xe : Value → Shared → Prop} (hh : t.hot = false) (tk : Takes (X.tr pn xe) W') (pa : PassesOwn (model X.prog X.w) X.A X.env xe) : Ok v fa m t (X.tr pn xe) W' where
  F := O.F
  K := O.K
  N := O.N
  sc := O.sc
  nd := O.nd
  calm := O.calm
  room := O.room
  grd := O.grd
  u65 := O.u65
  tk := fun _ => tk
  pas := pa
  fnc := O.fnc
  own := O.own
  top := O.top
  suit := fun h => by rw [h] at hh; cases hh
/-- an except suite -/
theorem Ok.suite (O : Ok v fa m t X W) {a : Addr} {oe : Obj} {cls : Value} {d : Option Addr} {pn : List (Addr × Obj)} (hz : Zc cls d oe) (hf : ∃ vs, oe.data = .fields vs) :
    Ok { v with ex := some (a, cls, d) } fa m { t with hot := true } (X.suite a ((a, oe) :: pn)) (fun _ _ _ _ => False) where
  F := O.F.hot _
  K := O.K
  N := O.N
  sc := O.sc
  nd := O.nd
  calm := fun h => by cases h
  room := fun h => by cases h
  grd := O.grd
  u65 := O.u65
  tk := fun h => by cases h
  pas := PassesOwn.never
  fnc := O.fnc
  own := O.own
  top := O.top
  suit := fun _ => ⟨X, a, oe, pn, cls, d, rfl, rfl, hz, hf⟩
theorem Ok.vis (O : Ok v fa m t X W) {x : Str} (h : visB t.sc x = true) : Vis X.env.scope x := by
  unfold visB at h
  simp only [Bool.or_eq_true, decide_eq_true_eq] at h
  unfold Vis
  rw [O.sc]
  rcases h with (h | h) | h
  · exact .inl h
  · exact .inr (.inl h)
  · exact .inr (.inr h)
theorem Ok.loc (O : Ok v fa m t X W) {x : Str} (h : locB t.sc x = true) : L2.Loc X.env.scope x := by
  unfold locB at h
  simp only [Bool.or_eq_true, decide_eq_true_eq] at h
  unfold L2.Loc
  rw [O.sc]
  exact h
theorem dbg1 {x : Str} (h : dbgB x = true) : (x == ("__debug__" : Str)) = false := by
  unfold dbgB at h
  simp only [Bool.and_eq_true, Bool.not_eq_true'] at h
  exact h.1
theorem dbg2 {x : Str} (h : dbgB x = true) : (x == ("__classdict__" : Str)) = false := by
  unfold dbgB at h
  simp only [Bool.and_eq_true, Bool.not_eq_true'] at h
  exact h.2
theorem bf_in (b : Bf) : b.name ∈ btNames := by cases b <;> decide +kernel
theorem ty_in : ∀ n ∈ tyNames, Str.ofString n ∈ btNames ∧ bootBuiltins (Str.ofString n) = some (.type n) ∧ Str.ofString n ≠ "__name__" ∧ (Str.ofString n == ("__debug__" : Str)) = false := by
  decide +kernel
theorem PW.or_one {a : Expr} {pos : Pos} {tA : TT} (h : PT X a tA) : PW X (.BoolOp .Or [a] pos) tA := pw_or1 h
theorem pe_lit {x : V} {k : Const} {j : Nat} {p : Pos} (h : litB x k = true) : PE X (.Constant k j p) (tC x) := by
  cases k <;> first
    | (cases h; done)
    | (have e := of_decide_eq_true h; subst e; first | exact pe_int | exact pe_bl | exact pe_str | exact pe_non)
/-- what is wanted of a truth value, as what is wanted of a value -/
def onBl (Q : Bool → Hp → Prop) : VK := fun z H => match z with
  | .bl b => Q b H
  | _ => False
theorem onBl_of {Q : Bool → Hp → Prop} {z : V} {H : Hp} (h : onBl Q z H) : ∃ b, z = .bl b ∧ Q b H := by
  unfold onBl at h
  split at h
  · exact ⟨_, rfl, h⟩
  · exact h.elim
theorem pt_cm {op : CmpOp} {a b : Expr} {pos : Pos} {ta tb : TE} {r : V → V → Hp → (Bool → Prop) → Prop} (hr : CmR X op r) (ha : PE X a ta) (hb : PE X b tb) (hm : nSet b = true) : PT X (.Compare a [op] [b] pos) (tCp r ta tb) := by
  refine ⟨fun pins s σ H Q I h => ?_⟩
  refine wpAny_isTrue_Compare1 (thn (ha.run pins s σ H _ I h) fun w1 s1 ⟨x, H1, I1, r1, q1⟩ => thn (hb.run pins s1 σ H1 _ I1 q1) fun w2 s2 ⟨y, H2, I2, r2, q2⟩ => ?_) (no_behind hm)
  refine thn (hr pins s2 σ H2 x y w1 w2 (onBl Q) I2 r1 r2 q2) fun c s3 ⟨z, H3, I3, r3, q3⟩ => ?_
  obtain ⟨b, e, q4⟩ := onBl_of q3
  subst e
  cases r3
  exact wpAny_truthy_bool ⟨H3, I3, q4⟩
theorem pe_ch {o1 o2 : CmpOp} {a b c : Expr} {pos : Pos} {ta tb tc : TE} {r r' : V → V → Hp → (Bool → Prop) → Prop} (hr : CmR X o1 r) (hr' : CmR X o2 r') (ha : PE X a ta) (hb : PE X b tb) (hc : PE X c tc) (hm : nSet c = true) :
    PE X (.Compare a [o1, o2] [b, c] pos) fun σ H Q => tCh r r' ta tb tc σ H fun k H1 => Q (.bl k) H1 := by
  refine ⟨fun pins s σ H Q I h => Compare_chain (thn (ha.run pins s σ H _ I h) fun w1 s1 ⟨x, H1, I1, r1, q1⟩ => chain_link ?_) (by show behindInMarks o2 c = false; exact no_behind hm)⟩
  refine thn (hb.run pins s1 σ H1 _ I1 q1) fun w2 s2 ⟨y, H2, I2, r2, q2⟩ => ?_
  refine thn (hr pins s2 σ H2 x y w1 w2 (onBl fun k H3 => if k = true then tc σ H3 fun z H4 => r' y z H4 fun k' => Q (.bl k') H4 else Q (.bl false) H3) I2 r1 r2 ?_) fun d s3 ⟨z, H3, I3, r3, q3⟩ => ?_
  · exact q2
  obtain ⟨k, e, q4⟩ := onBl_of q3
  subst e
  cases r3
  refine wpAny_truthy_bool ?_
  cases k with
  | false => exact ite_ff ⟨.bl false, H3, I3, rfl, q4⟩
  | true => exact ite_tt (chain_last (thn (hc.run pins s3 σ H3 _ I3 q4) fun w3 s4 ⟨z', H4, I4, r4, q5⟩ => hr' pins s4 σ H4 y z' w2 w3 Q I4 r2 r4 q5))
theorem pt_ch {o1 o2 : CmpOp} {a b c : Expr} {pos : Pos} {ta tb tc : TE} {r r' : V → V → Hp → (Bool → Prop) → Prop} (hr : CmR X o1 r) (hr' : CmR X o2 r') (ha : PE X a ta) (hb : PE X b tb) (hc : PE X c tc) (hm : nSet c = true) :
    PT X (.Compare a [o1, o2] [b, c] pos) (tCh r r' ta tb tc) := by
  refine ⟨fun pins s σ H Q I h => isTrue_chain (thn (ha.run pins s σ H _ I h) fun w1 s1 ⟨x, H1, I1, r1, q1⟩ => test_link ?_) (by show behindInMarks o2 c = false; exact no_behind hm)⟩
  refine thn (hb.run pins s1 σ H1 _ I1 q1) fun w2 s2 ⟨y, H2, I2, r2, q2⟩ => ?_
  refine thn (hr pins s2 σ H2 x y w1 w2 (onBl fun k H3 => if k = true then tc σ H3 fun z H4 => r' y z H4 fun k' => Q k' H4 else Q false H3) I2 r1 r2 ?_) fun d s3 ⟨z, H3, I3, r3, q3⟩ => ?_
  · exact q2
  obtain ⟨k, e, q4⟩ := onBl_of q3
  subst e
  cases r3
  refine wpAny_truthy_bool ?_
  cases k with
  | false => exact ite_ff ⟨H3, I3, q4⟩
  | true =>
    refine ite_tt (test_last (thn (hc.run pins s3 σ H3 _ I3 q4) fun w3 s4 ⟨z', H4, I4, r4, q5⟩ => thn (hr' pins s4 σ H4 y z' w2 w3 (onBl Q) I4 r2 r4 q5) fun d' s5 ⟨z2, H5, I5, r5, q6⟩ => ?_))
    obtain ⟨k', e', q7⟩ := onBl_of q6
    subst e'
    cases r5
    exact wpAny_truthy_bool ⟨H5, I5, q7⟩
theorem pe_ch3 {o1 o2 o3 : CmpOp} {a b c d : Expr} {pos : Pos} {ta tb tc td : TE} {r r' r'' : V → V → Hp → (Bool → Prop) → Prop} (hr : CmR X o1 r) (hr' : CmR X o2 r') (hr2 : CmR X o3 r'') (ha : PE X a ta) (hb : PE X b tb) (hc : PE X c tc) (hd : PE X d td) (hm : nSet d = true) :
    PE X (.Compare a [o1, o2, o3] [b, c, d] pos) fun σ H Q => tCh3 r r' r'' ta tb tc td σ H fun k H1 => Q (.bl k) H1 := by
  refine ⟨fun pins s σ H Q I h => Compare_chain (thn (ha.run pins s σ H _ I h) fun w1 s1 ⟨x, H1, I1, r1, q1⟩ => chain_link ?_) (by show behindInMarks o3 d = false; exact no_behind hm)⟩
  refine thn (hb.run pins s1 σ H1 _ I1 q1) fun w2 s2 ⟨y, H2, I2, r2, q2⟩ => ?_
  refine thn (hr pins s2 σ H2 x y w1 w2 (onBl fun k H3 => if k = true then tc σ H3 fun z H4 => r' y z H4 fun k' => if k' = true then td σ H4 fun u H5 => r'' z u H5 fun k2 => Q (.bl k2) H5 else Q (.bl false) H4 else Q (.bl false) H3) I2 r1 r2 q2) fun e s3 ⟨z0, H3, I3, r3, q3⟩ => ?_
  obtain ⟨k, e1, q4⟩ := onBl_of q3
  subst e1
  cases r3
  refine wpAny_truthy_bool ?_
  cases k with
  | false => exact ite_ff ⟨.bl false, H3, I3, rfl, q4⟩
  | true =>
    refine ite_tt (chain_link (thn (hc.run pins s3 σ H3 _ I3 q4) fun w3 s4 ⟨z, H4, I4, r4, q5⟩ => ?_))
    refine thn (hr' pins s4 σ H4 y z w2 w3 (onBl fun k' H5 => if k' = true then td σ H5 fun u H6 => r'' z u H6 fun k2 => Q (.bl k2) H6 else Q (.bl false) H5) I4 r2 r4 q5) fun e s5 ⟨z2, H5, I5, r5, q6⟩ => ?_
    obtain ⟨k', e2, q7⟩ := onBl_of q6
    subst e2
    cases r5
    refine wpAny_truthy_bool ?_
    cases k' with
    | false => exact ite_ff ⟨.bl false, H5, I5, rfl, q7⟩
    | true => exact ite_tt (chain_last (thn (hd.run pins s5 σ H5 _ I5 q7) fun w4 s6 ⟨u, H6, I6, r6, q8⟩ => hr2 pins s6 σ H6 z u w3 w4 Q I6 r4 r6 q8))
theorem pt_ch3 {o1 o2 o3 : CmpOp} {a b c d : Expr} {pos : Pos} {ta tb tc td : TE} {r r' r'' : V → V → Hp → (Bool → Prop) → Prop} (hr : CmR X o1 r) (hr' : CmR X o2 r') (hr2 : CmR X o3 r'') (ha : PE X a ta) (hb : PE X b tb) (hc : PE X c tc) (hd : PE X d td) (hm : nSet d = true) :
    PT X (.Compare a [o1, o2, o3] [b, c, d] pos) (tCh3 r r' r'' ta tb tc td) := by
  refine ⟨fun pins s σ H Q I h => isTrue_chain (thn (ha.run pins s σ H _ I h) fun w1 s1 ⟨x, H1, I1, r1, q1⟩ => test_link ?_) (by show behindInMarks o3 d = false; exact no_behind hm)⟩
  refine thn (hb.run pins s1 σ H1 _ I1 q1) fun w2 s2 ⟨y, H2, I2, r2, q2⟩ => ?_
  refine thn (hr pins s2 σ H2 x y w1 w2 (onBl fun k H3 => if k = true then tc σ H3 fun z H4 => r' y z H4 fun k' => if k' = true then td σ H4 fun u H5 => r'' z u H5 fun k2 => Q k2 H5 else Q false H4 else Q false H3) I2 r1 r2 q2) fun e s3 ⟨z0, H3, I3, r3, q3⟩ => ?_
  obtain ⟨k, e1, q4⟩ := onBl_of q3
  subst e1
  cases r3
  refine wpAny_truthy_bool ?_
  cases k with
  | false => exact ite_ff ⟨H3, I3, q4⟩
  | true =>
    refine ite_tt (test_link (thn (hc.run pins s3 σ H3 _ I3 q4) fun w3 s4 ⟨z, H4, I4, r4, q5⟩ => ?_))
    refine thn (hr' pins s4 σ H4 y z w2 w3 (onBl fun k' H5 => if k' = true then td σ H5 fun u H6 => r'' z u H6 fun k2 => Q k2 H6 else Q false H5) I4 r2 r4 q5) fun e s5 ⟨z2, H5, I5, r5, q6⟩ => ?_
    obtain ⟨k', e2, q7⟩ := onBl_of q6
    subst e2
    cases r5
    refine wpAny_truthy_bool ?_
    cases k' with
    | false => exact ite_ff ⟨H5, I5, q7⟩
    | true =>
      refine ite_tt (test_last (thn (hd.run pins s5 σ H5 _ I5 q7) fun w4 s6 ⟨u, H6, I6, r6, q8⟩ => thn (hr2 pins s6 σ H6 z u w3 w4 (onBl Q) I6 r4 r6 q8) fun e s7 ⟨z3, H7, I7, r7, q9⟩ => ?_))
      obtain ⟨k2, e3, q10⟩ := onBl_of q9
      subst e3
      cases r7
      exact wpAny_truthy_bool ⟨H7, I7, q10⟩
/-- and, or as values -/
theorem tIfV_imp {ta : TE} {f : Bool → L2.St → Hp → VK → Prop} {σ : L2.St} {H : Hp} {Q : VK} {pins : List (Addr × Obj)} {s : Shared} {e : Expr} (he : PE X e ta) (I : Inv X pins σ H s) (h : tIfV ta f σ H Q) :
    wpAny (model X.prog X.w) X.A (eval e X.env) (fun u s' => ∃ k H', Inv X pins σ H' s' ∧ u = Value.bool k ∧ f k σ H' Q) X.xe s := by
  refine thn (he.run pins s σ H _ I h) fun u s1 ⟨x, H1, I1, r1, q1⟩ => ?_
  dsimp only at q1
  split at q1
  · exact ⟨_, H1, I1, r1, q1⟩
  · exact q1.elim
theorem pe_andA {a b : Expr} {rest : List Expr} {pos : Pos} {ta tb : TE} (ha : PE X a ta) (hb : PE X (.BoolOp .And (b :: rest) pos) tb) :
    PE X (.BoolOp .And (a :: b :: rest) pos) (tIfV ta fun k σ H Q => if k = true then tb σ H Q else Q (.bl false) H) := by
  refine ⟨fun pins s σ H Q I h => BoolOp_and (thn (tIfV_imp ha I h) fun u s1 ⟨k, H1, I1, e, q1⟩ => ?_)⟩
  subst e
  refine wpAny_truthy_bool ?_
  cases k with
  | true => exact hb.run pins s1 σ H1 Q I1 q1
  | false => exact ⟨.bl false, H1, I1, rfl, q1⟩
theorem pe_orA {a b : Expr} {rest : List Expr} {pos : Pos} {ta tb : TE} (ha : PE X a ta) (hb : PE X (.BoolOp .Or (b :: rest) pos) tb) :
    PE X (.BoolOp .Or (a :: b :: rest) pos) (tIfV ta fun k σ H Q => if k = true then Q (.bl true) H else tb σ H Q) := by
  refine ⟨fun pins s σ H Q I h => BoolOp_or (thn (tIfV_imp ha I h) fun u s1 ⟨k, H1, I1, e, q1⟩ => ?_)⟩
  subst e
  refine wpAny_truthy_bool ?_
  cases k with
  | false => exact hb.run pins s1 σ H1 Q I1 q1
  | true => exact ⟨.bl true, H1, I1, rfl, q1⟩
theorem pe_notA {a : Expr} {pos : Pos} {ta : TE} (ha : PE X a ta) : PE X (.UnaryOp .Not a pos) (tIfV ta fun k _ H Q => Q (.bl (!k)) H) := by
  refine ⟨fun pins s σ H Q I h => UnaryOp_ (thn (tIfV_imp ha I h) fun u s1 ⟨k, H1, I1, e, q1⟩ => ?_)⟩
  subst e
  exact not_of (wpAny_truthy_bool ⟨.bl (!k), H1, I1, rfl, q1⟩)
theorem PI.or {tg it : Expr} {w1 w2 : TI} (h1 : PI X tg it w1) (h2 : PI X tg it w2) : PI X tg it fun σ H R => w1 σ H R ∨ w2 σ H R :=
  ⟨fun pins s σ H R I h => h.elim (fun h => h1.run pins s σ H R I h) fun h => h2.run pins s σ H R I h⟩
theorem gs_len : ∀ {c : Tgs} {t : CK} {l : List Expr} {env : Env}, c.chk t l = true → (assignEach l env).length = c.len ∧ (assignEach l env).findIdx? (·.1) = none
  | .nil, _, [], _, _ => ⟨rfl, rfl⟩
  | .nil, _, _ :: _, _, h => by cases h
  | .cons a r, _, [], _, h => by cases h
  | .cons a r, t, e :: es, env, h => by
    simp only [Tgs.chk, Bool.and_eq_true] at h
    obtain ⟨h1, h2⟩ := gs_len (env := env) h.2
    rw [assign_cons h.1.1]
    refine ⟨?_, ?_⟩
    · show (assignEach es env).length + 1 = r.len + 1
      rw [h1]
    · rw [List.findIdx?_cons]
      simp [h2]
end
end DI

/-! DI, part 7: soundness of the reading. -/
namespace DI
open L2
open PySem.Spec
open PyProof.Rows hiding St
open PySem

section
variable {v : Ev} {fa : Nat → Addr} {m : Nat}

theorem all_tail {e : Expr} {es : List Expr} (h : (e :: es).all nStar = true) : nStar e = true ∧ es.all nStar = true := by
  rw [List.all_cons, Bool.and_eq_true] at h
  exact h
theorem kw_nil {l : List Str} (h : l.isEmpty = true) : l = [] := by simpa using h
theorem hotF {t : CK} (h : (!t.hot) = true) : t.hot = false := by simpa using h
theorem ok_calls {t : CK} {X : Cx} {W : WX} (O : Ok v fa m t X W) {f : Nat} (h : t.calls.contains f = true) :
    ∃ fd ps, FnG X.prog X.w X.K X.mg X.base m (fa f) fd ps (v.sp f) ∧ Bnd X.K fd ps (t.kw f) ∧ X.mg (t.fn f) = some (.ref (fa f)) ∧ PySem.W.keepIn X.K (.ref (fa f)) = true := by
  have hf : f ∈ t.calls := by simpa using h
  obtain ⟨fd, ps, F, b⟩ := O.F.fn f (.inl hf)
  have c := O.F.calls f hf
  rw [O.K] at F b c
  exact ⟨fd, ps, F, b, c.1, c.2⟩
theorem ok_call {t : CK} {X : Cx} {W : WX} (O : Ok v fa m t X W) {f : Nat} (h : t.cl f = true) :
    ∃ fd ps, FnG X.prog X.w X.K X.mg X.base m (fa f) fd ps (v.sp f) ∧ Binds X.K fd ps [] ∧ X.mg (t.fn f) = some (.ref (fa f)) ∧ PySem.W.keepIn X.K (.ref (fa f)) = true := by
  unfold CK.cl at h
  rw [Bool.and_eq_true] at h
  obtain ⟨fd, ps, F, b, c⟩ := ok_calls O h.1
  rw [kw_nil h.2] at b
  exact ⟨fd, ps, F, b.plain, c⟩
theorem ok_meth {t : CK} {X : Cx} {W : WX} (O : Ok v fa m t X W) {C f : Nat} {nm : Str} (h : t.mt C f nm = true) :
    ∃ fd ps, FnG X.prog X.w X.K X.mg X.base m (fa f) fd ps (v.sp f) ∧ Binds X.K fd ps [] ∧ Cls X.K (v.cls C) ∧ Meth X.K (v.cls C) nm (fa f) := by
  unfold CK.mt at h
  rw [Bool.and_eq_true] at h
  have hf : (C, f, nm) ∈ t.mths := by simpa using h.1
  obtain ⟨fd, ps, F, b⟩ := O.F.fn f (.inr (.inl ⟨C, nm, hf⟩))
  have c := O.F.mths _ hf
  rw [O.K] at F b c
  rw [kw_nil h.2] at b
  exact ⟨fd, ps, F, b.plain, c.1, c.2⟩
theorem ok_mk {t : CK} {X : Cx} {W : WX} (O : Ok v fa m t X W) {C f : Nat} (h : t.mkq C f = true) :
    ∃ fd ps, FnG X.prog X.w X.K X.mg X.base m (fa f) fd ps (v.sp f) ∧ Binds X.K fd ps [] ∧ X.mg (t.cn C) = some (.ref (v.cls C)) ∧ Mk X.K (v.cls C) (fa f) := by
  unfold CK.mkq at h
  rw [Bool.and_eq_true] at h
  have hf : (C, f) ∈ t.mks := by simpa using h.1
  obtain ⟨fd, ps, F, b⟩ := O.F.fn f (.inr (.inr ⟨C, hf⟩))
  have c := O.F.mks _ hf
  rw [O.K] at F b c
  rw [kw_nil h.2] at b
  exact ⟨fd, ps, F, b.plain, c.1, c.2⟩
theorem ok_fld {t : CK} {X : Cx} {W : WX} (O : Ok v fa m t X W) {C : Nat} {f : Str} (h : t.flds.contains (C, f) = true) : Cls X.K (v.cls C) ∧ NoAttr X.K (v.cls C) f := by
  have hf : (C, f) ∈ t.flds := by simpa using h
  have c := O.F.flds _ hf
  rw [O.K] at c
  exact c

theorem kw_names {kws : List Keyword} {ks : List Str} {pos : Pos} {env : Env} (h : kws.map (·.arg) = ks.map some) :
    (backToKw pos (keywordEach kws env)).all (·.1.isSome) = true ∧ (backToKw pos (keywordEach kws env)).filterMap (·.1) = ks ∧ (backToKw pos (keywordEach kws env)).any (·.1.isNone) = false := by
  induction kws generalizing ks with
  | nil =>
    cases ks with
    | nil => exact ⟨rfl, rfl, rfl⟩
    | cons a r => cases h
  | cons k r ih =>
    obtain ⟨nm, val, kp⟩ := k
    cases ks with
    | nil => cases h
    | cons a r' =>
      rw [List.map_cons, List.map_cons] at h
      injection h with h1 h2
      have h1 : nm = some a := h1
      subst h1
      obtain ⟨i1, i2, i3⟩ := ih h2
      refine ⟨?_, ?_, ?_⟩
      · show (true && (backToKw pos (keywordEach r env)).all (·.1.isSome)) = true
        rw [i1]; rfl
      · show a :: (backToKw pos (keywordEach r env)).filterMap (·.1) = _
        rw [i2]
      · show (false || (backToKw pos (keywordEach r env)).any (·.1.isNone)) = false
        rw [i3]; rfl
theorem Xps.len_chk : ∀ {c : Xps} {t : CK} {l : List Expr}, c.chk t l = true → l.length = c.len
  | .nil, _, [], _ => rfl
  | .nil, _, _ :: _, h => by cases h
  | .cons a r, t, [], h => by cases h
  | .cons a r, t, e :: es, h => by
    simp only [Xps.chk, Bool.and_eq_true] at h
    show es.length + 1 = r.len + 1
    rw [Xps.len_chk h.2]
theorem PT.pwB {X : Cx} {op : BoolOp} {l : List Expr} {pos : Pos} {t : TT} (h : PT X (.BoolOp op l pos) t) : PW X (.BoolOp op l pos) t := ⟨fun w pins s σ H Q I q => h.run pins s σ H Q I q⟩

inductive PEs (X : Cx) : List Expr → List TE → Prop
  | nil : PEs X [] []
  | cons {e : Expr} {es : List Expr} {t : TE} {ts : List TE} (h : PE X e t) (r : PEs X es ts) : PEs X (e :: es) (t :: ts)
theorem pps_of {X : Cx} {pos : Pos} : ∀ {keys : List (Option Expr)} {values : List Expr} {tk tv : List TE}, allSome keys = true → keys.length = values.length → PEs X (somes keys) tk → PEs X values tv → PPs X pos keys values (tk.zip tv)
  | [], [], _, _, _, _, .nil, .nil => pps_nil
  | [], _ :: _, _, _, _, h, _, _ => by cases h
  | _ :: _, [], _, _, _, h, _, _ => by cases h
  | none :: ks, y :: ys, _, _, h, _, _, _ => by cases h
  | some k :: ks, y :: ys, _, _, h, hl, .cons a r, .cons b r' => by
    refine pps_cons a b (pps_of ?_ (by simpa using hl) r r')
    unfold allSome at h ⊢
    simpa using h
set_option maxHeartbeats 2000000 in
mutual
theorem Xp.sound : ∀ (c : Xp) {t : CK} {e : Expr} {X : Cx} {W : WX}, Ok v fa m t X W → c.chk t e = true → PE X e (c.den v W)
  | .v i, t, e, X, W, O, h => by
    simp only [Xp.chk] at h
    split at h
    · simp only [Bool.and_eq_true, decide_eq_true_eq] at h
      exact PE.imp (pe_var (by rw [O.N]; exact h.1.1) (O.vis h.1.2) (dbg1 h.2) (dbg2 h.2)) fun σ H Q => tV_imp
    · cases h
  | .c x, t, e, X, W, O, h => by
    simp only [Xp.chk] at h
    split at h
    · exact pe_lit h
    · cases h
  | .g i, t, e, X, W, O, h => by
    simp only [Xp.chk] at h
    split at h
    · simp only [Bool.and_eq_true, decide_eq_true_eq] at h
      obtain ⟨⟨⟨h1, h2⟩, h3⟩, h4⟩ := h
      obtain ⟨u, hu, ru⟩ := O.F.gls i (by simpa using h2)
      rw [← h1] at hu
      exact pe_glob (O.gl h3) hu ru (dbg1 h4)
    · cases h
  | .ty n, t, e, X, W, O, h => by
    simp only [Xp.chk] at h
    split at h
    · simp only [Bool.and_eq_true, decide_eq_true_eq] at h
      obtain ⟨⟨h1, h2⟩, h3⟩ := h
      subst h1
      obtain ⟨b1, b2, b3, b4⟩ := ty_in n (by simpa using h2)
      exact pe_bltn (O.gl h3) (O.bt b1) b2 rfl b3 b4
    · cases h
  | .bin op a b, t, e, X, W, O, h => by
    simp only [Xp.chk] at h
    split at h
    · simp only [Bool.and_eq_true, decide_eq_true_eq] at h
      obtain ⟨⟨h1, h2⟩, h3⟩ := h
      subst h1
      exact pe_op (opBin O.K _) (Xp.sound a O h2) (Xp.sound b O h3)
    · cases h
  | .neg a, t, e, X, W, O, h => by
    simp only [Xp.chk] at h
    split at h
    · exact pe_un un_neg (Xp.sound a O h)
    · cases h
  | .cmp op a b, t, e, X, W, O, h => by
    simp only [Xp.chk] at h
    split at h
    · simp only [Bool.and_eq_true, decide_eq_true_eq] at h
      obtain ⟨⟨⟨h1, h2⟩, h3⟩, h4⟩ := h
      subst h1
      exact pe_cmpR (cmAll O.K O.u65 _) (Xp.sound a O h3) (Xp.sound b O h4) (no_behind h2)
    · cases h
  | .chn o1 o2 a b c, t, e, X, W, O, h => by
    simp only [Xp.chk] at h
    split at h
    · simp only [Bool.and_eq_true, decide_eq_true_eq] at h
      obtain ⟨⟨⟨⟨⟨h1, h2⟩, h3⟩, h4⟩, h5⟩, h6⟩ := h
      subst h1 h2
      exact pe_ch (cmAll O.K O.u65 _) (cmAll O.K O.u65 _) (Xp.sound a O h4) (Xp.sound b O h5) (Xp.sound c O h6) h3
    · cases h
  | .and a b, t, e, X, W, O, h => by
    simp only [Xp.chk] at h
    split at h
    · simp only [Bool.and_eq_true, decide_eq_true_eq] at h
      exact pe_andA (Xp.sound a O h.1) (pe_one (Xp.sound b O h.2))
    · simp only [Bool.and_eq_true, decide_eq_true_eq] at h
      exact pe_andA (Xp.sound a O h.1) (Xp.sound b O h.2)
    · cases h
  | .or a b, t, e, X, W, O, h => by
    simp only [Xp.chk] at h
    split at h
    · simp only [Bool.and_eq_true, decide_eq_true_eq] at h
      exact pe_orA (Xp.sound a O h.1) (pe_one (Xp.sound b O h.2))
    · simp only [Bool.and_eq_true, decide_eq_true_eq] at h
      exact pe_orA (Xp.sound a O h.1) (Xp.sound b O h.2)
    · cases h
  | .not a, t, e, X, W, O, h => by
    simp only [Xp.chk] at h
    split at h
    · exact pe_notA (Xp.sound a O h)
    · cases h
  | .ite c a b, t, e, X, W, O, h => by
    simp only [Xp.chk] at h
    split at h
    · simp only [Bool.and_eq_true, decide_eq_true_eq] at h
      obtain ⟨⟨h1, h2⟩, h3⟩ := h
      exact pe_ifExp (Tt.sound c O h1) (Xp.sound a O h2) (Xp.sound b O h3)
    · cases h
  | .tup es, t, e, X, W, O, h => by
    simp only [Xp.chk] at h
    split at h
    · exact pe_tup (Xps.sound es O h)
    · cases h
  | .lst es, t, e, X, W, O, h => by
    simp only [Xp.chk] at h
    split at h
    · exact pe_lst (Xps.sound es O h)
    · cases h
  | .dct0, t, e, X, W, O, h => by
    simp only [Xp.chk] at h
    split at h
    · exact pe_dnewK
    · cases h
  | .dctT0, t, e, X, W, O, h => by
    simp only [Xp.chk] at h
    split at h
    · exact pe_dnewT
    · cases h
  | .dct ks vs, t, e, X, W, O, h => by
    simp only [Xp.chk] at h
    split at h
    · rename_i keys values pos
      simp only [Bool.and_eq_true, decide_eq_true_eq] at h
      obtain ⟨⟨⟨⟨⟨h1, h2⟩, h3⟩, h4⟩, h5⟩, h6⟩ := h
      exact pe_disp (pps_of h1 h6 (Xps.soundD ks O h4) (Xps.soundD vs O h5)) h1 h6 h2 h3
    · cases h
  | .dget d k x, t, e, X, W, O, h => by
    simp only [Xp.chk] at h
    split at h
    · rename_i r m ap l1 l2 p
      simp only [Bool.and_eq_true, decide_eq_true_eq] at h
      obtain ⟨⟨⟨⟨⟨⟨⟨h1, h2⟩, h3⟩, h4⟩, h5⟩, h6⟩, h7⟩, h8⟩ := h
      subst h1
      refine pe_dget2 (Nat.lt_of_le_of_lt (Nat.add_le_add_left (by decide : 1 ≤ 65) _) O.u65) (Xp.sound d O h6) (Xp.sound k O h7) (Xp.sound x O h8) ⟨attr_plain h2 _ _ _, ?_, h3, by rw [starEach_cons h4, starEach_cons h5]; rfl⟩
      rw [backTo_all (by rw [List.all_cons, List.all_cons, h4, h5]; rfl)]
      rfl
    · cases h
  | .lrg1 a, t, e, X, W, O, h => by
    simp only [Xp.chk] at h
    split at h
    · simp only [Bool.and_eq_true, decide_eq_true_eq] at h
      obtain ⟨⟨⟨⟨⟨⟨h0, h1⟩, h2⟩, h3⟩, h4⟩, h5⟩, h6⟩ := h
      subst h1 h2
      exact pe_listRg (O.calm (hotF h0)) (O.gl h3) (O.bt (by decide +kernel)) (prg_1 (O.gl h4) (O.bt (by decide +kernel)) (Xp.sound a O h6) (starEach_cons h5 _ _)) (starEach_cons rfl _ _)
    · cases h
  | .lrg2 a b, t, e, X, W, O, h => by
    simp only [Xp.chk] at h
    split at h
    · simp only [Bool.and_eq_true, decide_eq_true_eq] at h
      obtain ⟨⟨⟨⟨⟨⟨⟨⟨h0, h1⟩, h2⟩, h3⟩, h4⟩, h5⟩, h6⟩, h7⟩, h8⟩ := h
      subst h1 h2
      exact pe_listRg (O.calm (hotF h0)) (O.gl h3) (O.bt (by decide +kernel)) (prg_2 (O.gl h4) (O.bt (by decide +kernel)) (Xp.sound a O h7) (Xp.sound b O h8) (starEach_cons h5 _ _) (starEach_cons h6 _ _) (backTo_any (by rw [List.all_cons, h6]; rfl))) (starEach_cons rfl _ _)
    · cases h
  | .chn3 o1 o2 o3 a b c d, t, e, X, W, O, h => by
    simp only [Xp.chk] at h
    split at h
    · simp only [Bool.and_eq_true, decide_eq_true_eq] at h
      obtain ⟨⟨⟨⟨⟨⟨⟨h1, h2⟩, h2'⟩, h3⟩, h4⟩, h5⟩, h6⟩, h7⟩ := h
      subst h1 h2 h2'
      exact pe_ch3 (cmAll O.K O.u65 _) (cmAll O.K O.u65 _) (cmAll O.K O.u65 _) (Xp.sound a O h4) (Xp.sound b O h5) (Xp.sound c O h6) (Xp.sound d O h7) h3
    · cases h
  | .ef i f, t, e, X, W, O, h => by
    simp only [Xp.chk] at h
    split at h
    · rename_i x p1 m p2
      simp only [Bool.and_eq_true, decide_eq_true_eq] at h
      obtain ⟨⟨⟨⟨h1, h2⟩, h3⟩, h4⟩, h5⟩ := h
      subst h1
      have pv : PE X (.Name x p1) (tVar i) := pe_var (by rw [O.N]; exact h3) (O.vis h4) (dbg1 h5) (dbg2 h5)
      obtain ⟨X0, a0, oe, pn, cls, d, eX, ev, hz, hf⟩ := O.suit h2
      subst eX
      refine ⟨fun pins s σ H Q I q => ?_⟩
      obtain ⟨a, dd, j, fs, z, e1, hj, hs, hd, hl, q⟩ := q
      rw [ev] at e1
      cases e1
      rw [O.F.vxs] at hj
      obtain ⟨_, E, _⟩ := O.F.exs _ hj
      have E : ExCls X0.prog v.K (v.cls j) m := E
      rw [O.K] at E
      exact (pe_xf (X := X0) (C := v.cls j) E.xf E.no hz hf pv (by rfl)).run pins s σ H Q I ⟨.ref a0, hs, rfl, rfl, dd, fs, z, rfl, hd, hl, q⟩
    · cases h
  | .ei i C, t, e, X, W, O, h => by
    simp only [Xp.chk] at h
    split at h
    · rename_i n1 p0 x p1 c p2 p3
      simp only [Bool.and_eq_true, decide_eq_true_eq] at h
      obtain ⟨⟨⟨⟨⟨⟨⟨⟨⟨h1, h2⟩, h3⟩, h4⟩, h5⟩, h6⟩, h7⟩, h8⟩, h9⟩, h10⟩ := h
      subst h1 h7
      have hmc : X.mg (t.cn C) = some (.ref (v.cls C)) := by
        rw [Bool.or_eq_true] at h10
        rcases h10 with h10 | h10
        · rw [List.any_eq_true] at h10
          obtain ⟨q, hq, e⟩ := h10
          have e := of_decide_eq_true e
          rw [← e]
          exact (O.F.exs q hq).1
        · exact O.F.bss C (by simpa using h10)
      have pv : PE X (.Name x p1) (tVar i) := pe_var (by rw [O.N]; exact h4) (O.vis h5) (dbg1 h6) (dbg2 h6)
      have pc : PE X (.Name (t.cn C) p2) (tC (.ref (v.cls C))) := pe_glob (O.gl h8) hmc rfl (dbg1 h9)
      obtain ⟨X0, a0, oe, pn, cls, d, eX, ev, hz, hf⟩ := O.suit h3
      subst eX
      refine ⟨fun pins s σ H Q I q => ?_⟩
      obtain ⟨a, dd, j, f, fs, b, e1, hj, hs, hd, hk, q⟩ := q
      rw [ev] at e1
      cases e1
      rw [O.F.vxs] at hj
      obtain ⟨_, _, E⟩ := O.F.exs _ hj
      have hK : v.K = X0.K := O.K
      rw [hK] at E hk
      refine (pe_callB (call_isED E hz hf) (O.gl h2) (O.bt (by decide +kernel)) (by decide +kernel) (pa_cons pv (pa_cons pc pa_nil (starEach_cons rfl _ _)) (starEach_cons rfl _ _)) (by decide +kernel) (by decide +kernel) (starEach_cons rfl _ _) (backTo_any rfl)).run pins s σ H Q I ?_
      exact ⟨.ref a0, hs, .ref (v.cls C), .ref (v.cls C), fs, b, rfl, fun u hu => hu, hd, hk, q⟩
    · cases h
  | .eib i n, t, e, X, W, O, h => by
    simp only [Xp.chk] at h
    split at h
    · rename_i n1 p0 x p1 c p2 p3
      simp only [Bool.and_eq_true, decide_eq_true_eq] at h
      obtain ⟨⟨⟨⟨⟨⟨⟨⟨h1, h2⟩, h3⟩, h4⟩, h5⟩, h6⟩, h7⟩, h8⟩, h9⟩ := h
      subst h1 h7 h9
      have pv : PE X (.Name x p1) (tVar i) := pe_var (by rw [O.N]; exact h4) (O.vis h5) (dbg1 h6) (dbg2 h6)
      have pc : PE X (.Name (Str.ofString "ValueError") p2) (tC (.ty "ValueError")) := pe_bltn (O.gl h8) (O.bt (by decide +kernel)) (by decide +kernel) rfl (by decide +kernel) (by decide +kernel)
      obtain ⟨X0, a0, oe, pn, cls, d, eX, ev, hz, hf⟩ := O.suit h3
      subst eX
      refine ⟨fun pins s σ H Q I q => ?_⟩
      obtain ⟨a, dd, j, f, fs, b, e1, hj, hs, hd, hk, q⟩ := q
      rw [ev] at e1
      cases e1
      rw [O.F.vxs] at hj
      obtain ⟨_, _, E⟩ := O.F.exs _ hj
      have hK : v.K = X0.K := O.K
      rw [hK] at E hk
      refine (pe_callB (call_isED E hz hf) (O.gl h2) (O.bt (by decide +kernel)) (by decide +kernel) (pa_cons pv (pa_cons pc pa_nil (starEach_cons rfl _ _)) (starEach_cons rfl _ _)) (by decide +kernel) (by decide +kernel) (starEach_cons rfl _ _) (backTo_any rfl)).run pins s σ H Q I ?_
      exact ⟨.ref a0, hs, .ty "ValueError", .type "ValueError", fs, b, rfl, fun u hu => hu, hd, hk, q⟩
    · cases h
  | .ix a i, t, e, X, W, O, h => by
    simp only [Xp.chk] at h
    split at h
    · simp only [Bool.and_eq_true, decide_eq_true_eq] at h
      obtain ⟨⟨h1, h2⟩, h3⟩ := h
      exact pe_ix (ixAll O.K (Nat.lt_of_le_of_lt (Nat.add_le_add_left (by decide : 1 ≤ 65) _) O.u65)) (Xp.sound a O h1) (Xp.sound i O h2) fun o i => subs_plain h3 o i
    · cases h
  | .sl a lo hi, t, e, X, W, O, h => by
    simp only [Xp.chk] at h
    split at h
    · simp only [Bool.and_eq_true, decide_eq_true_eq] at h
      obtain ⟨⟨h1, h2⟩, h3⟩ := h
      exact pe_slice (slAll O.K) (Xp.sound a O h1) (Xpo.sound lo O h2) (Xpo.sound hi O h3)
    · cases h
  | .rev a, t, e, X, W, O, h => by
    simp only [Xp.chk] at h
    split at h
    · refine ⟨fun pins s σ H Q I q => (pe_revL (Xp.sound a O h)).run pins s σ H Q I ?_⟩
      rw [← O.K]
      exact q
    · cases h
  | .fld C o f, t, e, X, W, O, h => by
    simp only [Xp.chk] at h
    split at h
    · simp only [Bool.and_eq_true, decide_eq_true_eq] at h
      obtain ⟨⟨⟨h1, h2⟩, h3⟩, h4⟩ := h
      subst h1
      obtain ⟨c, n⟩ := ok_fld O h2
      refine ⟨fun pins s σ H Q I q => attr_of (attr_plain h3 _ _ _) (thn ((Xp.sound o O h4).run pins s σ H _ I q) fun u s1 ⟨x, H1, I1, rx, a, dx, fs, w, ex, ea, l, q1⟩ => ?_)⟩
      subst ex
      cases rx
      exact getattr_ok I1 ea c n l fun u' s2 I2 ru => ⟨w, H1, I2, ru, q1⟩
    · cases h
  | .call f es, t, e, X, W, O, h => by
    simp only [Xp.chk] at h
    split at h
    · simp only [Bool.and_eq_true, decide_eq_true_eq] at h
      obtain ⟨⟨⟨⟨⟨h0, h1⟩, h2⟩, h3⟩, h4⟩, h5⟩ := h
      have hh := hotF h0
      subst h1
      obtain ⟨fd, ps, F, b, c1, c2⟩ := ok_call O h2
      rename_i x p l pos
      have st := Xps.stars h5
      cases l with
      | nil =>
        cases es with
        | nil => exact peCallG0 F ((O.room hh).mono (Nat.le_succ _)) b (O.tk hh) (O.gl h3) c1 c2 (dbg1 h4)
        | cons a r => cases h5
      | cons y ys => exact peCallG F ((O.room hh).mono (Nat.le_succ _)) b (O.tk hh) (O.gl h3) c1 c2 (Xps.sound es O h5) (dbg1 h4) (starEach_cons (all_tail st).1 _ _) (backTo_any (all_tail st).2)
    · cases h
  | .callk f es ks, t, e, X, W, O, h => by
    simp only [Xp.chk] at h
    split at h
    · simp only [Bool.and_eq_true, decide_eq_true_eq] at h
      obtain ⟨⟨⟨⟨⟨⟨⟨h0, h1⟩, h2⟩, h3⟩, h4⟩, h6⟩, h5⟩, h7⟩ := h
      have hh := hotF h0
      subst h1
      obtain ⟨fd, ps, F, b, c1, c2⟩ := ok_calls O h2
      have st := Xps.stars h5
      rename_i x p a l kws pos
      have hn := kw_names (pos := pos) (env := X.env) h6
      have hl : (t.kw f).length = ks.len := by
        have e1 := congrArg List.length h6
        have e2 := Xps.len_chk h7
        rw [List.length_map, List.length_map] at e1
        rw [List.length_map] at e2
        omega
      show PE X _ (fun σ H Q => es.den v W σ H fun vs H1 => ks.den v W σ H1 fun zs H2 => zs.length = ks.len ∧ v.sp f (vs ++ zs) H2 Q fun c d H3 => W c d σ H3)
      rw [← hl]
      exact peCallKG F ((O.room hh).mono (Nat.le_succ _)) b (O.tk hh) (O.gl h3) c1 c2 (Xps.sound es O h5) (Xps.soundK ks O h7) hn.1 hn.2.1 (dbg1 h4) (starEach_cons (all_tail st).1 _ _) (by rw [backTo_any st, hn.2.2]; rfl)
    · cases h
  | .bits a, t, e, X, W, O, h => by
    simp only [Xp.chk] at h
    split at h
    · simp only [Bool.and_eq_true, decide_eq_true_eq] at h
      obtain ⟨⟨⟨h1, h2⟩, h3⟩, h4⟩ := h
      subst h1
      exact pe_bits (Xp.sound a O h4) (attr_plain h2 _ _ _) h3
    · cases h
  | .mk C f es, t, e, X, W, O, h => by
    simp only [Xp.chk] at h
    split at h
    · simp only [Bool.and_eq_true, decide_eq_true_eq] at h
      obtain ⟨⟨⟨⟨⟨h0, h1⟩, h2⟩, h3⟩, h4⟩, h5⟩ := h
      have hh := hotF h0
      subst h1
      obtain ⟨fd, ps, F, b, c1, c2⟩ := ok_mk O h2
      rename_i x p l pos
      have st := Xps.stars h5
      cases l with
      | nil =>
        cases es with
        | nil => exact peMakeG0 c2 F (O.room hh) b (O.tk hh) (O.gl h3) c1 (dbg1 h4)
        | cons a r => cases h5
      | cons y ys => exact peMakeG c2 F (O.room hh) b (O.tk hh) (O.gl h3) c1 (Xps.sound es O h5) (dbg1 h4) (starEach_cons (all_tail st).1 _ _) (backTo_any (all_tail st).2)
    · cases h
  | .meth f C nm o es, t, e, X, W, O, h => by
    simp only [Xp.chk] at h
    split at h
    · simp only [Bool.and_eq_true] at h
      obtain ⟨⟨⟨⟨⟨⟨⟨h0, h1⟩, h2⟩, h3⟩, h4⟩, h5⟩, h6⟩, h7⟩ := h
      have hh := hotF h0
      have h1 := of_decide_eq_true h1
      subst h1
      obtain ⟨fd, ps, F, b, c1, c2⟩ := ok_meth O h2
      rename_i r x ap l pos
      have st := Xps.stars h7
      have mt := meth_tree (X := X) (m := x) h3 h4 h5 st
      cases l with
      | nil =>
        cases es with
        | nil => exact peMethG0 (Xp.sound o O h6) c1 c2 F ((O.room hh).mono (Nat.le_succ _)) b (O.tk hh) mt
        | cons a r => cases h7
      | cons y ys => exact peMethG (Xp.sound o O h6) c1 c2 F ((O.room hh).mono (Nat.le_succ _)) b (O.tk hh) (Xps.sound es O h7) (starEach_cons (all_tail st).1 _ _) (backTo_any (all_tail st).2) mt
    · cases h
  | .bc b es, t, e, X, W, O, h => by
    simp only [Xp.chk] at h
    split at h
    · simp only [Bool.and_eq_true, decide_eq_true_eq] at h
      obtain ⟨⟨⟨h0, h1⟩, h2⟩, h3⟩ := h
      subst h1
      have st := Xps.stars h3
      have cr : CallR X b.val (rBf v.K b) := by
        by_cases hb : b = .isi
        · rw [hb]; exact isiOk O.K
        · exact bfOk O.F.sysm O.K (O.calm (hotF (by simpa [hb] using h0))) O.grd O.u65 b
      have bo := b.boot
      cases hv : b.val with
      | builtin i =>
        rw [hv] at cr bo
        exact pe_callB cr (O.gl h2) (O.bt (bf_in b)) bo (Xps.sound es O h3) b.notName b.notDbg (starEach_cons (all_tail st).1 _ _) (backTo_any (all_tail st).2)
      | type i =>
        rw [hv] at cr bo
        exact pe_callTy cr (O.gl h2) (O.bt (bf_in b)) bo (Xps.sound es O h3) b.notName b.notDbg (starEach_cons (all_tail st).1 _ _) (backTo_any (all_tail st).2)
      | _ => cases b <;> cases hv
    · cases h
  | .lenO f C es, t, e, X, W, O, h => by
    simp only [Xp.chk] at h
    split at h
    · simp only [Bool.and_eq_true, decide_eq_true_eq] at h
      obtain ⟨⟨⟨⟨h0, h1⟩, h2⟩, h4⟩, h3⟩ := h
      have hh := hotF h0
      subst h1
      have st := Xps.stars h3
      obtain ⟨fd, ps, F, b, c1, c2⟩ := ok_meth O h4
      have cr := callLenO c2 F (O.room hh) b (O.tk hh)
      exact pe_callB cr (O.gl h2) (O.bt (bf_in .len)) Bf.len.boot (Xps.sound es O h3) Bf.len.notName Bf.len.notDbg (starEach_cons (all_tail st).1 _ _) (backTo_any (all_tail st).2)
    · cases h
  | .bm k o es, t, e, X, W, O, h => by
    simp only [Xp.chk] at h
    split at h
    · simp only [Bool.and_eq_true] at h
      obtain ⟨⟨⟨⟨⟨⟨h0, h1⟩, h3⟩, h4⟩, h5⟩, h6⟩, h7⟩ := h
      have hh := hotF h0
      have h1 := of_decide_eq_true h1
      subst h1
      rename_i r ap l pos
      have st := Xps.stars h7
      have hm := bmOk (X := X) O.K (O.calm hh) k
      cases l with
      | nil =>
        cases es with
        | nil =>
          refine ⟨fun pins s σ H Q I q => (pe_bm0 k.plain k.slot k.desc hm (Xp.sound o O h6) (attr_plain h3 _ _ _) h5).run pins s σ H Q I ?_⟩
          unfold tBM0
          rw [← O.K]
          exact q
        | cons a r => cases h7
      | cons y ys =>
        refine ⟨fun pins s σ H Q I q => (pe_bm k.plain k.slot k.desc hm (Xp.sound o O h6) (Xps.sound es O h7) (attr_plain h3 _ _ _) ?_ h5 (starEach_cons (all_tail st).1 _ _) (backTo_any (all_tail st).2)).run pins s σ H Q I ?_⟩
        · rw [backTo_all st]
          have h4 := of_decide_eq_true h4
          simpa [keywordEach, backToKw] using h4
        · unfold tBM
          rw [← O.K]
          exact q
    · cases h
  | .mxd mx a d, t, e, X, W, O, h => by
    simp only [Xp.chk] at h
    split at h
    · simp only [Bool.and_eq_true, decide_eq_true_eq] at h
      obtain ⟨⟨⟨⟨⟨⟨h0, h1⟩, h2⟩, h3⟩, h4⟩, h5⟩, h6⟩ := h
      have hh := hotF h0
      subst h2
      rename_i x p l r kp pos
      have hst : nStar l = true := h4
      cases mx with
      | true =>
        subst h1
        have g := pe_callBK (p := p) (pos := pos) (x := "max") (kws := [⟨some "default", r, kp⟩]) (MX.cr_maxDf (O.calm hh) O.u65) (O.gl h3) (O.bt (by decide +kernel)) (by first | rfl | decide +kernel) (pa_cons (Xp.sound a O h5) pa_nil (starEach_cons h4 _ _)) (pk_cons (nm := some "default") (kpos := kp) (Xp.sound d O h6) pk_nil) (by decide) (by decide) (by rw [starEach_cons h4 _ _]; rfl) (by rw [starEach_cons h4 _ _]; rfl)
        rw [← O.K] at g
        exact g
      | false =>
        subst h1
        have g := pe_callBK (p := p) (pos := pos) (x := "min") (kws := [⟨some "default", r, kp⟩]) (MX.cr_minDf (O.calm hh) O.u65) (O.gl h3) (O.bt (by decide +kernel)) (by first | rfl | decide +kernel) (pa_cons (Xp.sound a O h5) pa_nil (starEach_cons h4 _ _)) (pk_cons (nm := some "default") (kpos := kp) (Xp.sound d O h6) pk_nil) (by decide) (by decide) (by rw [starEach_cons h4 _ _]; rfl) (by rw [starEach_cons h4 _ _]; rfl)
        rw [← O.K] at g
        exact g
    · cases h
  | .dc k el tg it ifs own, t, e, X, W, O, h => by
    simp only [Xp.chk] at h
    split at h
    · simp only [Bool.and_eq_true, decide_eq_true_eq] at h
      obtain ⟨⟨⟨⟨⟨⟨⟨h0, h1⟩, h2⟩, h3⟩, h4⟩, h5⟩, h7⟩, h6⟩ := h
      have hh := hotF h0
      rename_i x y tt ii ff sc pos
      have ok : BlkOk X.N X.env.scope sc (ownP t.N own) := by
        rw [O.N, O.sc]
        exact blkOk_by h1
      have g := pe_dc (pos := pos) (O.calm hh) (by rw [O.N]; exact O.nd) (Sq.sound it O h3) ok (fun s H C cl fp => Tg.sound tg (O.blk hh) h4) (fun s H C cl fp => Tto.sound ifs (O.blk hh) h5) (fun s H C cl fp => Xp.sound k (O.blk hh) h7) (fun s H C cl fp => Xp.sound el (O.blk hh) h6) (fun x => folded_plain h2 _ x)
      rw [ownP_snd] at g
      exact g
    · cases h
  | .lc el tg it ifs own, t, e, X, W, O, h => by
    simp only [Xp.chk] at h
    split at h
    · simp only [Bool.and_eq_true, decide_eq_true_eq] at h
      obtain ⟨⟨⟨⟨⟨⟨h0, h1⟩, h2⟩, h3⟩, h4⟩, h5⟩, h6⟩ := h
      have hh := hotF h0
      rename_i y tt ii ff sc pos
      have ok : BlkOk X.N X.env.scope sc (ownP t.N own) := by
        rw [O.N, O.sc]
        exact blkOk_by h1
      have g := pe_lc (pos := pos) (O.calm hh) (by rw [O.N]; exact O.nd) (Sq.sound it O h3) ok (fun s H C cl fp => Tg.sound tg (O.blk hh) h4) (fun s H C cl fp => Tto.sound ifs (O.blk hh) h5) (fun s H C cl fp => Xp.sound el (O.blk hh) h6) (fun x => folded_plain h2 _ x)
      rw [ownP_snd] at g
      exact g
    · cases h
theorem Xpo.sound : ∀ (c : Xpo) {t : CK} {e : Option Expr} {X : Cx} {W : WX}, Ok v fa m t X W → c.chk t e = true → PO X e (c.den v W)
  | .no, t, e, X, W, O, h => by
    simp only [Xpo.chk] at h
    split at h
    · exact po_none
    · cases h
  | .so a, t, e, X, W, O, h => by
    simp only [Xpo.chk] at h
    split at h
    · cases h
    · exact po_some (Xp.sound a O h)
theorem Xps.sound : ∀ (c : Xps) {t : CK} {l : List Expr} {X : Cx} {W : WX}, Ok v fa m t X W → c.chk t l = true → PA X l (c.den v W)
  | .nil, t, [], X, W, O, h => pa_nil
  | .nil, t, _ :: _, X, W, O, h => by cases h
  | .cons a r, t, [], X, W, O, h => by cases h
  | .cons a r, t, e :: es, X, W, O, h => by
    simp only [Xps.chk, Bool.and_eq_true] at h
    exact pa_cons (Xp.sound a O h.1.2) (Xps.sound r O h.2) (starEach_cons h.1.1 _ _)
theorem Xps.soundD : ∀ (c : Xps) {t : CK} {l : List Expr} {X : Cx} {W : WX}, Ok v fa m t X W → c.chk t l = true → PEs X l (c.dens v W)
  | .nil, t, [], X, W, O, h => .nil
  | .nil, t, _ :: _, X, W, O, h => by cases h
  | .cons a r, t, [], X, W, O, h => by cases h
  | .cons a r, t, e :: es, X, W, O, h => by
    simp only [Xps.chk, Bool.and_eq_true] at h
    exact .cons (Xp.sound a O h.1.2) (Xps.soundD r O h.2)
theorem Xps.soundK : ∀ (c : Xps) {t : CK} {l : List Keyword} {X : Cx} {W : WX}, Ok v fa m t X W → c.chk t (l.map (·.value)) = true → PK X l (c.den v W)
  | .nil, t, [], X, W, O, h => pk_nil
  | .nil, t, _ :: _, X, W, O, h => by cases h
  | .cons a r, t, [], X, W, O, h => by cases h
  | .cons a r, t, ⟨nm, e, kp⟩ :: es, X, W, O, h => by
    simp only [List.map_cons, Xps.chk, Bool.and_eq_true] at h
    exact pk_cons (Xp.sound a O h.1.2) (Xps.soundK r O h.2)
theorem Tt.sound : ∀ (c : Tt) {t : CK} {e : Expr} {X : Cx} {W : WX}, Ok v fa m t X W → c.chk t e = true → PT X e (c.den v W)
  | .tr a, t, e, X, W, O, h => by
    simp only [Tt.chk, Bool.and_eq_true] at h
    refine ⟨fun pins s σ H Q I q => isTrue_plain (thn ((Xp.sound a O h.2).run pins s σ H _ I q) fun u s1 ⟨x, H1, I1, r1, q1⟩ => ?_) (test_plain h.1 _ _)⟩
    exact truAll O.K pins s1 σ H1 x u Q I1 r1 q1
  | .cmp op a b, t, e, X, W, O, h => by
    simp only [Tt.chk] at h
    split at h
    · simp only [Bool.and_eq_true, decide_eq_true_eq] at h
      obtain ⟨⟨⟨h1, h2⟩, h3⟩, h4⟩ := h
      subst h1
      exact pt_cm (cmAll O.K O.u65 _) (Xp.sound a O h3) (Xp.sound b O h4) h2
    · cases h
  | .chn o1 o2 a b c, t, e, X, W, O, h => by
    simp only [Tt.chk] at h
    split at h
    · simp only [Bool.and_eq_true, decide_eq_true_eq] at h
      obtain ⟨⟨⟨⟨⟨h1, h2⟩, h3⟩, h4⟩, h5⟩, h6⟩ := h
      subst h1 h2
      exact pt_ch (cmAll O.K O.u65 _) (cmAll O.K O.u65 _) (Xp.sound a O h4) (Xp.sound b O h5) (Xp.sound c O h6) h3
    · cases h
  | .chn3 o1 o2 o3 a b c d, t, e, X, W, O, h => by
    simp only [Tt.chk] at h
    split at h
    · simp only [Bool.and_eq_true, decide_eq_true_eq] at h
      obtain ⟨⟨⟨⟨⟨⟨⟨h1, h2⟩, h2'⟩, h3⟩, h4⟩, h5⟩, h6⟩, h7⟩ := h
      subst h1 h2 h2'
      exact pt_ch3 (cmAll O.K O.u65 _) (cmAll O.K O.u65 _) (cmAll O.K O.u65 _) (Xp.sound a O h4) (Xp.sound b O h5) (Xp.sound c O h6) (Xp.sound d O h7) h3
    · cases h
  | .and a b, t, e, X, W, O, h => by
    simp only [Tt.chk] at h
    split at h
    · simp only [Bool.and_eq_true, decide_eq_true_eq] at h
      exact (pw_and (Tt.sound a O h.1) (pw_and1 (Tt.sound b O h.2))).pt
    · simp only [Bool.and_eq_true, decide_eq_true_eq] at h
      exact (pw_and (Tt.sound a O h.1) (PT.pwB (Tt.sound b O h.2))).pt
    · cases h
  | .or a b, t, e, X, W, O, h => by
    simp only [Tt.chk] at h
    split at h
    · simp only [Bool.and_eq_true, decide_eq_true_eq] at h
      exact (pw_or (Tt.sound a O h.1) (pw_or1 (Tt.sound b O h.2))).pt
    · simp only [Bool.and_eq_true, decide_eq_true_eq] at h
      exact (pw_or (Tt.sound a O h.1) (PT.pwB (Tt.sound b O h.2))).pt
    · cases h
  | .not a, t, e, X, W, O, h => by
    simp only [Tt.chk] at h
    split at h
    · exact pt_not (Tt.sound a O h)
    · cases h
theorem Tto.sound : ∀ (c : Tto) {t : CK} {l : List Expr} {X : Cx} {W : WX}, Ok v fa m t X W → c.chk t l = true → PTs X l (c.den v W)
  | .no, t, l, X, W, O, h => by
    simp only [Tto.chk] at h
    split at h
    · exact pts_nil
    · cases h
  | .so a, t, l, X, W, O, h => by
    simp only [Tto.chk] at h
    split at h
    · exact pts_one (Tt.sound a O h)
    · cases h
theorem Sq.sound : ∀ (c : Sq) {t : CK} {tg e : Expr} {X : Cx} {W : WX}, Ok v fa m t X W → c.chk t tg e = true → PI X tg e (c.den v W)
  | .lst a, t, tg, e, X, W, O, h => by
    have g := pi_list (tg := tg) (Xp.sound a O h)
    rw [← O.K] at g
    exact g
  | .tup a, t, tg, e, X, W, O, h => by
    have g := pi_tup (tg := tg) (Xp.sound a O h)
    rw [← O.K] at g
    exact g
  | .txt a, t, tg, e, X, W, O, h => pi_str (Xp.sound a O h)
  | .rng1 a, t, tg, e, X, W, O, h => by
    simp only [Sq.chk] at h
    split at h
    · simp only [Bool.and_eq_true, decide_eq_true_eq] at h
      obtain ⟨⟨⟨h1, h2⟩, h3⟩, h4⟩ := h
      subst h1
      exact pi_range1 (O.gl h2) (O.bt (by decide +kernel)) (pa_cons (Xp.sound a O h4) pa_nil (starEach_cons h3 _ _)) (starEach_cons h3 _ _)
    · cases h
  | .rng3 a b c, t, tg, e, X, W, O, h => by
    simp only [Sq.chk] at h
    split at h
    · simp only [Bool.and_eq_true, decide_eq_true_eq] at h
      obtain ⟨⟨⟨⟨⟨⟨⟨h1, h2⟩, h3⟩, h4⟩, h5⟩, h6⟩, h7⟩, h8⟩ := h
      subst h1
      exact pi_range3 (O.gl h2) (O.bt (by decide +kernel)) (pa_cons (Xp.sound a O h6) (pa_cons (Xp.sound b O h7) (pa_cons (Xp.sound c O h8) pa_nil (starEach_cons h5 _ _)) (starEach_cons h4 _ _)) (starEach_cons h3 _ _))
        (by rw [starEach_cons h3]) (backTo_any (by rw [List.all_cons, List.all_cons, h4, h5]; rfl))
    · cases h
  | .rng2 a b, t, tg, e, X, W, O, h => by
    simp only [Sq.chk] at h
    split at h
    · simp only [Bool.and_eq_true, decide_eq_true_eq] at h
      obtain ⟨⟨⟨⟨⟨h1, h2⟩, h3⟩, h4⟩, h5⟩, h6⟩ := h
      subst h1
      exact pi_range2 (O.gl h2) (O.bt (by decide +kernel)) (pa_cons (Xp.sound a O h5) (pa_cons (Xp.sound b O h6) pa_nil (starEach_cons h4 _ _)) (starEach_cons h3 _ _))
        (by rw [starEach_cons h3, starEach_cons h4]; rfl) (starEach_cons h4 _ _)
    · cases h
  | .enm a, t, tg, e, X, W, O, h => by
    simp only [Sq.chk] at h
    split at h
    · simp only [Bool.and_eq_true, decide_eq_true_eq] at h
      obtain ⟨⟨⟨h1, h2⟩, h3⟩, h4⟩ := h
      subst h1
      have g := fun (elts : List Expr) (kk : Nat) (tp p pos : Pos) => pi_enum (elts := elts) (kk := kk) (tpos := tp) (p := p) (pos := pos) (O.gl h2) (O.bt (by decide +kernel)) (pa_cons (Xp.sound a O h4) pa_nil (starEach_cons h3 _ _)) (starEach_cons h3 _ _)
      rw [← O.K] at g
      exact g _ _ _ _ _
    · cases h
  | .enmT a, t, tg, e, X, W, O, h => by
    simp only [Sq.chk] at h
    split at h
    · simp only [Bool.and_eq_true, decide_eq_true_eq] at h
      obtain ⟨⟨⟨h1, h2⟩, h3⟩, h4⟩ := h
      subst h1
      have g := fun (elts : List Expr) (kk : Nat) (tp p pos : Pos) => pi_enumT (elts := elts) (kk := kk) (tpos := tp) (p := p) (pos := pos) (O.gl h2) (O.bt (by decide +kernel)) (pa_cons (Xp.sound a O h4) pa_nil (starEach_cons h3 _ _)) (starEach_cons h3 _ _)
      rw [← O.K] at g
      exact g _ _ _ _ _
    · cases h
  | .zip a b, t, tg, e, X, W, O, h => by
    simp only [Sq.chk] at h
    split at h
    · simp only [Bool.and_eq_true, decide_eq_true_eq] at h
      obtain ⟨⟨⟨⟨⟨h1, h2⟩, h3⟩, h4⟩, h5⟩, h6⟩ := h
      subst h1
      have g := fun (elts : List Expr) (kk : Nat) (tp p pos : Pos) => RZ.pi_zipA (elts := elts) (kk := kk) (tpos := tp) (p := p) (pos := pos) (O.gl h2) (O.bt (by decide +kernel)) (pa_cons (Xp.sound a O h5) (pa_cons (Xp.sound b O h6) pa_nil (starEach_cons h4 _ _)) (starEach_cons h3 _ _)) (starEach_cons h3 _ _) (by rw [starEach_cons h4]; rfl)
      rw [← O.K] at g
      exact g _ _ _ _ _
    · cases h
  | .zipS a b, t, tg, e, X, W, O, h => by
    simp only [Sq.chk] at h
    split at h
    · simp only [Bool.and_eq_true, decide_eq_true_eq] at h
      obtain ⟨⟨⟨⟨⟨h1, h2⟩, h3⟩, h4⟩, h5⟩, h6⟩ := h
      subst h1
      have g := fun (elts : List Expr) (kk : Nat) (tp p pos : Pos) => pi_zipS (elts := elts) (kk := kk) (tpos := tp) (p := p) (pos := pos) (O.gl h2) (O.bt (by decide +kernel)) (pa_cons (Xp.sound a O h5) (pa_cons (Xp.sound b O h6) pa_nil (starEach_cons h4 _ _)) (starEach_cons h3 _ _)) (starEach_cons h3 _ _) (by rw [starEach_cons h4]; rfl)
      exact g _ _ _ _ _
    · cases h
  | .rvs a, t, tg, e, X, W, O, h => by
    simp only [Sq.chk] at h
    split at h
    · simp only [Bool.and_eq_true, decide_eq_true_eq] at h
      obtain ⟨⟨⟨h1, h2⟩, h3⟩, h4⟩ := h
      subst h1
      have g := fun (p pos : Pos) => RT.pi_revA (tg := tg) (p := p) (pos := pos) (O.gl h2) (O.bt (by decide +kernel)) (Xp.sound a O h4) (starEach_cons h3 _ _)
      rw [← O.K] at g
      exact g _ _
    · cases h
  | .rvT a, t, tg, e, X, W, O, h => by
    simp only [Sq.chk] at h
    split at h
    · simp only [Bool.and_eq_true, decide_eq_true_eq] at h
      obtain ⟨⟨⟨h1, h2⟩, h3⟩, h4⟩ := h
      subst h1
      have g := fun (p pos : Pos) => RX.pi_revT (tg := tg) (p := p) (pos := pos) (O.gl h2) (O.bt (by decide +kernel)) (Xp.sound a O h4) (starEach_cons h3 _ _)
      exact g _ _
    · cases h
  | .rvr1 a, t, tg, e, X, W, O, h => by
    simp only [Sq.chk] at h
    split at h
    · simp only [Bool.and_eq_true, decide_eq_true_eq] at h
      obtain ⟨⟨⟨⟨⟨h1, h2⟩, h3⟩, h4⟩, h5⟩, h6⟩ := h
      subst h1 h2
      exact pi_revR (O.gl h3) (O.bt (by decide +kernel)) (prg_1 (O.gl h4) (O.bt (by decide +kernel)) (Xp.sound a O h6) (starEach_cons h5 _ _)) (starEach_cons rfl _ _)
    · cases h
  | .rvr2 a b, t, tg, e, X, W, O, h => by
    simp only [Sq.chk] at h
    split at h
    · simp only [Bool.and_eq_true, decide_eq_true_eq] at h
      obtain ⟨⟨⟨⟨⟨⟨⟨h1, h2⟩, h3⟩, h4⟩, h5⟩, h6⟩, h7⟩, h8⟩ := h
      subst h1 h2
      exact pi_revR (O.gl h3) (O.bt (by decide +kernel)) (prg_2 (O.gl h4) (O.bt (by decide +kernel)) (Xp.sound a O h7) (Xp.sound b O h8) (starEach_cons h5 _ _) (starEach_cons h6 _ _) (backTo_any (by rw [List.all_cons, h6]; rfl))) (starEach_cons rfl _ _)
    · cases h
  | .any a b, t, tg, e, X, W, O, h => by
    simp only [Sq.chk, Bool.and_eq_true] at h
    exact PI.or (Sq.sound a O h.1) (Sq.sound b O h.2)
theorem Tg.sound : ∀ (c : Tg) {t : CK} {e : Expr} {X : Cx} {W : WX}, Ok v fa m t X W → c.chk t e = true → PG X e (c.den v W)
  | .nm i, t, e, X, W, O, h => by
    simp only [Tg.chk] at h
    split at h
    · simp only [Bool.and_eq_true, decide_eq_true_eq] at h
      obtain ⟨h1, h2⟩ := h
      have nd : X.N.Nodup := by rw [O.N]; exact O.nd
      rename_i x pos
      have hi : X.N[i]? = some x := by rw [O.N]; exact h1
      split at h2
      · rename_i hb
        rcases Bool.or_eq_true _ _ |>.mp h2 with h2 | h2
        · have h2 := of_decide_eq_true h2
          rw [← O.sc] at h2
          exact pg_name nd hi (.inl h2) (.inr h2)
        · simp only [Bool.and_eq_true, decide_eq_true_eq] at h2
          have h3 := h2.1
          rw [← O.sc] at h3
          exact pg_name nd hi (.inr h3) (.inl (O.own hb _ h2.2))
      · rename_i hb
        exact pg_name nd hi (O.loc h2) (.inl (O.fnc (by simpa using hb) _))
    · cases h
  | .tup gs, t, e, X, W, O, h => by
    simp only [Tg.chk] at h
    split at h
    · rename_i l kk pos
      simp only [Bool.and_eq_true] at h
      obtain ⟨h0, h⟩ := h
      have hh := hotF h0
      have g := pg_tup (k := kk) (pos := pos) (O.calm hh) (Tgs.sound gs O h) (gs_len h).1 (gs_len h).2
      have g2 := pg_lst (k := kk) (pos := pos) (O.calm hh) (Tgs.sound gs O h) (gs_len h).1 (gs_len h).2
      rw [← O.K] at g g2
      exact ⟨fun pins s σ H x u Q I r q => q.elim (g.run pins s σ H x u Q I r) (g2.run pins s σ H x u Q I r)⟩
    · cases h
  | .sub o i, t, e, X, W, O, h => by
    simp only [Tg.chk] at h
    split at h
    · simp only [Bool.and_eq_true, decide_eq_true_eq] at h
      obtain ⟨⟨h1, h2⟩, h3⟩ := h
      exact pg_sub (Xp.sound o O h2) (Xp.sound i O h3) (setAll (Nat.lt_of_le_of_lt (Nat.add_le_add_left (by decide : 1 ≤ 65) _) O.u65)) fun v => sub_assign h1 v
    · cases h
theorem Tgs.sound : ∀ (c : Tgs) {t : CK} {l : List Expr} {X : Cx} {W : WX}, Ok v fa m t X W → c.chk t l = true → PGs X l (c.den v W)
  | .nil, t, [], X, W, O, h => pgs_nil
  | .nil, t, _ :: _, X, W, O, h => by cases h
  | .cons a r, t, [], X, W, O, h => by cases h
  | .cons a r, t, e :: es, X, W, O, h => by
    simp only [Tgs.chk, Bool.and_eq_true] at h
    exact pgs_cons (Tg.sound a O h.1.2) (Tgs.sound r O h.2) (by rw [assign_cons h.1.1]; rfl)
end
end
end DI

/-! DI, part 8: soundness for statements; every def at every depth. -/
namespace DI
open L2
open PySem.Spec
open PyProof.Rows hiding St
open PySem

section
variable {fa : Nat → Addr} {m : Nat}

theorem inop_all {v : Ev} {X : Cx} (hK : v.K = X.K) (op : Operator) : InOp X op (rAug v.K op) := fun pins s σ H x y u w Q I rx ry h => augAll hK op pins s σ H x y u w Q I rx ry h
set_option maxHeartbeats 2000000 in
mutual
theorem Sm.sound : ∀ (c : Sm) {v : Ev} {t : CK} {e : Stmt} {X : Cx} {W : WX}, Ok v fa m t X W → c.chk t e = true → PS X e (c.den v W)
  | .asg g y, v, t, e, X, W, O, h => by
    simp only [Sm.chk] at h
    split at h
    · simp only [Bool.and_eq_true] at h
      obtain ⟨⟨⟨⟨h1, h2⟩, h3⟩, h4⟩, h5⟩ := h
      rcases Bool.or_eq_true _ _ |>.mp h1 with h1 | h1
      · exact ps_asg (Xp.sound y O h5) (Tg.sound g O h4) (swap_plain h1 _ _ _) (swapped_plain h3) (by rw [assign_cons h2]; rfl)
      · exact ps_asg (Xp.sound y O h5) (Tg.sound g O h4) (swap_cell (by rw [O.sc]; exact h1) _) (swapped_plain h3) (by rw [assign_cons h2]; rfl)
    · cases h
  | .asl i el tg it ifs own, v, t, e, X, W, O, h => by
    simp only [Sm.chk] at h
    split at h
    · rename_i x px y tt ii ff sc p sp
      simp only [Bool.and_eq_true, Bool.not_eq_true'] at h
      obtain ⟨⟨⟨⟨⟨⟨⟨⟨⟨⟨⟨h0, h1⟩, h2⟩, h3⟩, h4⟩, h5⟩, h6⟩, h7⟩, h8⟩, h9⟩, h10⟩, h11⟩ := h
      have hh : t.hot = false := h0
      have h1 := of_decide_eq_true h1
      have h2 := of_decide_eq_true h2
      have h5 := of_decide_eq_true h5
      have ok : BlkOk X.N X.env.scope sc (ownP t.N own) := by
        rw [O.N, O.sc]
        exact blkOk_by h6
      have k5 : X.env.scope.kind = .function := by rw [O.sc]; exact h5
      have k2 : X.env.scope.names.lookup x = some .local := by rw [O.sc]; exact h2
      have g := ps_setLc (py := px) (pos := p) (spos := sp) (O.calm hh) (by rw [O.N]; exact O.nd) (by rw [O.N]; exact h1) k2 (sw_true k5 k2 h3 h4) (Sq.sound it O h8) ok
        (fun s H C cl fp => Tg.sound tg (O.blk hh) h9) (fun s H C cl fp => Tto.sound ifs (O.blk hh) h10) (fun s H C cl fp => Xp.sound el (O.blk hh) h11) (fun x => folded_plain h7 _ x)
      rw [ownP_snd] at g
      exact g
    · cases h
  | .par i j a b, v, t, e, X, W, O, h => by
    simp only [Sm.chk] at h
    split at h
    · rename_i x px y py kt pt e1 e2 k2 pt2 pos
      simp only [Bool.and_eq_true, decide_eq_true_eq] at h
      obtain ⟨⟨⟨⟨⟨⟨⟨⟨h0, h1⟩, h2⟩, h3⟩, h4⟩, h5⟩, h6⟩, h7⟩, h8⟩ := h
      have hh := hotF h0
      have l := parB_loc h4
      have l1 := l (x, px) (by simp)
      have l2 := l (y, py) (by simp)
      exact ps_par (O.calm hh) (by rw [O.N]; exact O.nd) (by rw [O.N]; exact h1) (by rw [O.N]; exact h2) h3 (by rw [O.sc]; exact l1) (by rw [O.sc]; exact l2)
        (pa_cons (Xp.sound a O h7) (pa_cons (Xp.sound b O h8) pa_nil (starEach_cons h6 _ _)) (starEach_cons h5 _ _)) (swapped_2 (by rw [O.sc]; exact h4))
    · cases h
  | .par3 i j l a b c, v, t, e, X, W, O, h => by
    simp only [Sm.chk] at h
    split at h
    · rename_i x px y py z pz kt pt e1 e2 e3 k2 pt2 pos
      simp only [Bool.and_eq_true, decide_eq_true_eq] at h
      obtain ⟨⟨⟨⟨⟨⟨⟨⟨⟨⟨⟨⟨⟨h0, h1⟩, h2⟩, h3⟩, h4⟩, h5⟩, h6⟩, h7⟩, h8⟩, h9⟩, h10⟩, h11⟩, h12⟩, h13⟩ := h
      have hh := hotF h0
      have l := parB_loc h7
      have l1 := l (x, px) (by simp)
      have l2 := l (y, py) (by simp)
      have l3 := l (z, pz) (by simp)
      exact ps_par3 (O.calm hh) (by rw [O.N]; exact O.nd) (by rw [O.N]; exact h1) (by rw [O.N]; exact h2) (by rw [O.N]; exact h3) h4 h5 h6 (by rw [O.sc]; exact l1) (by rw [O.sc]; exact l2) (by rw [O.sc]; exact l3)
        (pa_cons (Xp.sound a O h11) (pa_cons (Xp.sound b O h12) (pa_cons (Xp.sound c O h13) pa_nil (starEach_cons h10 _ _)) (starEach_cons h9 _ _)) (starEach_cons h8 _ _)) (swapped_3 (by rw [O.sc]; exact h7))
    · cases h
  | .fld C o f y, v, t, e, X, W, O, h => by
    simp only [Sm.chk] at h
    split at h
    · simp only [Bool.and_eq_true] at h
      obtain ⟨⟨⟨h1, h2⟩, h4⟩, h5⟩ := h
      have h1 := of_decide_eq_true h1
      subst h1
      obtain ⟨c, n⟩ := ok_fld O h2
      refine ⟨fun pins s σ H D I q => plainObj_wpAny_Assign_Attribute (thn ((Xp.sound y O h5).run pins s σ H _ I q) fun u s1 ⟨z, H1, I1, rz, q1⟩ =>
        thn ((Xp.sound o O h4).run pins s1 σ H1 _ I1 q1) fun ov s2 ⟨x, H2, I2, rx, a, dx, fs, ex, ea, l, q2⟩ => ?_) (swap_attr _ _ _ _ _ _)⟩
      subst ex
      cases rx
      exact setattr_ok I2 ea c n l rz fun s3 I3 => ⟨σ, _, I3, q2⟩
    · cases h
  | .aug i op y, v, t, e, X, W, O, h => by
    simp only [Sm.chk] at h
    split at h
    · simp only [Bool.and_eq_true, Bool.not_eq_true'] at h
      obtain ⟨⟨⟨⟨h1, h2⟩, h3⟩, h4⟩, h5⟩ := h
      have h1 := of_decide_eq_true h1
      have h2 := of_decide_eq_true h2
      subst h1
      refine PS.imp (ps_aug (by rw [O.N]; exact O.nd) (by rw [O.N]; exact h2) (O.loc h3) (Xp.sound y O h5) (augAll O.K _) (.inl (O.fnc h4 _))) fun D σ H q => ?_
      unfold Sm.den tAugA at q
      split at q
      · exact ⟨_, by assumption, q⟩
      · exact q.elim
    · cases h
  | .augf C o f op y, v, t, e, X, W, O, h => by
    simp only [Sm.chk] at h
    split at h
    · simp only [Bool.and_eq_true] at h
      obtain ⟨⟨⟨⟨h0, h1⟩, h2⟩, h4⟩, h5⟩ := h
      have h0 := of_decide_eq_true h0
      have h1 := of_decide_eq_true h1
      subst h0 h1
      obtain ⟨c, n⟩ := ok_fld O h2
      refine ⟨fun pins s σ H D I q => wpAny_AugAssign_AttributeAny (thn ((Xp.sound o O h4).run pins s σ H _ I q) fun ov s1 ⟨x, H1, I1, rx, a, dx, fs, w, ex, ea, l, q1⟩ => ?_)⟩
      subst ex
      cases rx
      refine getattr_ok I1 ea c n l fun u s2 I2 ru => thn ((Xp.sound y O h5).run pins s2 σ H1 _ I2 q1) fun w3 s3 ⟨z, H2, I3, rz, q3⟩ =>
        thn (inop_all O.K _ pins s3 σ H2 w z u w3 _ I3 ru rz q3) fun w4 s4 ⟨z', H3, I4, rz', fs', ea', l', q4⟩ => ?_
      exact setattr_ok I4 ea' c n l' rz' fun s5 I5 => ⟨σ, _, I5, q4⟩
    · cases h
  | .exp y, v, t, e, X, W, O, h => by
    simp only [Sm.chk] at h
    split at h
    · simp only [Bool.and_eq_true] at h
      exact ps_expr (Xp.sound y O h.2) (swap_plain h.1 _ _ _)
    · cases h
  | .ret y, v, t, e, X, W, O, h => by
    simp only [Sm.chk] at h
    split at h
    · exact ps_ret (Xp.sound y O h)
    · cases h
  | .retN, v, t, e, X, W, O, h => by
    simp only [Sm.chk] at h
    split at h
    · exact ps_retN
    · cases h
  | .pass, v, t, e, X, W, O, h => by
    simp only [Sm.chk] at h
    split at h
    · exact ps_pass
    · cases h
  | .brk, v, t, e, X, W, O, h => by
    simp only [Sm.chk] at h
    split at h
    · exact ps_break
    · cases h
  | .cnt, v, t, e, X, W, O, h => by
    simp only [Sm.chk] at h
    split at h
    · exact ps_continue
    · cases h
  | .ite c a b, v, t, e, X, W, O, h => by
    simp only [Sm.chk] at h
    split at h
    · simp only [Bool.and_eq_true] at h
      exact ps_if (Tt.sound c O h.1.1) (Sms.sound a O h.1.2) (Sms.sound b O h.2)
    · cases h
  | .whl c b, v, t, e, X, W, O, h => by
    simp only [Sm.chk] at h
    split at h
    · simp only [Bool.and_eq_true] at h
      exact ps_while O.pas (Tt.sound c O h.1) (Sms.sound b O h.2)
    · cases h
  | .for_ tg it b, v, t, e, X, W, O, h => by
    simp only [Sm.chk] at h
    split at h
    · simp only [Bool.and_eq_true] at h
      obtain ⟨⟨⟨⟨h0, h1⟩, h2⟩, h3⟩, h4⟩ := h
      exact ps_for O.pas (O.calm (hotF h0)) (Sq.sound it O h2) (Tg.sound tg O h3) (Sms.sound b O h4) fun x => folded_plain h1 _ x
    · cases h
  | .rai C f es, v, t, e, X, W, O, h => by
    simp only [Sm.chk] at h
    split at h
    · rename_i x p0 l r p1 p2
      simp only [Bool.and_eq_true] at h
      obtain ⟨⟨⟨⟨⟨h0, h1⟩, h2⟩, h3⟩, h4⟩, h5⟩ := h
      have hh := hotF h0
      have h1 := of_decide_eq_true h1
      subst h1
      have st := Xps.stars h5
      obtain ⟨mc, E, _⟩ := O.F.exs (C, f) (by simpa using h4)
      have E : ExCls X.prog v.K (v.cls C) f := E
      rw [O.K] at E
      exact ps_raise (O.calm hh) (O.tk hh) (pmk_sup E (O.room hh).r (O.gl h2) mc (Xps.sound es O h5) (dbg1 h3) (starEach_cons (all_tail st).1 _ _) (backTo_any (all_tail st).2))
    · cases h
  | .tryA b C i sb, v, t, e, X, W, O, h => by
    simp only [Sm.chk] at h
    split at h
    · rename_i body x p0 n b0 su p1 p2
      simp only [Bool.and_eq_true, Bool.not_eq_true'] at h
      obtain ⟨⟨⟨⟨⟨⟨⟨⟨⟨h0, hb⟩, h1⟩, h2⟩, h3⟩, h4⟩, h5⟩, h6⟩, h7⟩, h8⟩ := h
      have h1 := of_decide_eq_true h1
      have h5 := of_decide_eq_true h5
      have h6 := of_decide_eq_true h6
      subst h1
      have hmc := O.clsIn h4
      obtain ⟨tp, fr⟩ := O.top hb
      have g := ps_try_as (i := i) (ts := fun a c d => sb.den { v with ex := some (a, c, d) } fun _ _ _ _ => False) (tb := fun W' => b.den v W') (Wout := W) (np := p0) (pos := p2) (pos' := p1) tp fr (by rw [O.N]; exact O.nd) (by rw [O.N]; exact h5) (by show X.env.scope.names.lookup n = _; rw [O.sc]; exact h6) (c := .ref (v.cls C)) ⟨O.gl h2, dbg1 h3, .inl hmc⟩ (O.tk h0)
        (fun W' pn xe tk pa => Sms.sound b (O.tr h0 tk pa) h7) (fun a oe cls d pn hz hf => Sms.sound sb (O.suite hz hf) h8)
      rw [← O.K] at g
      exact g
    · cases h
  | .tryO b C sb, v, t, e, X, W, O, h => by
    simp only [Sm.chk] at h
    split at h
    · rename_i body x p0 b0 su p1 p2
      simp only [Bool.and_eq_true, Bool.not_eq_true'] at h
      obtain ⟨⟨⟨⟨⟨⟨⟨h0, hb⟩, h1⟩, h2⟩, h3⟩, h4⟩, h7⟩, h8⟩ := h
      have h1 := of_decide_eq_true h1
      subst h1
      have hmc := O.clsIn h4
      obtain ⟨tp, fr⟩ := O.top hb
      have g := ps_try_only (ts := fun a c d => sb.den { v with ex := some (a, c, d) } fun _ _ _ _ => False) (tb := fun W' => b.den v W') (Wout := W) (np := p0) (pos := p2) (pos' := p1) tp fr (c := .ref (v.cls C)) ⟨O.gl h2, dbg1 h3, .inl hmc⟩ (O.tk h0)
        (fun W' pn xe tk pa => Sms.sound b (O.tr h0 tk pa) h7) (fun a oe cls d pn hz hf => Sms.sound sb (O.suite hz hf) h8)
      rw [← O.K] at g
      exact g
    · cases h
  | .tryM b hs, v, t, e, X, W, O, h => by
    simp only [Sm.chk] at h
    split at h
    · rename_i body h0' hds p2
      simp only [Bool.and_eq_true, Bool.not_eq_true'] at h
      obtain ⟨⟨⟨h0, hb⟩, h7⟩, h8⟩ := h
      obtain ⟨tp, fr⟩ := O.top hb
      have g := ps_try_many (l := hs.den v) (tb := fun W' => b.den v W') (Wout := W) (pos := p2) tp fr (O.tk h0) (fun W' pn xe tk pa => Sms.sound b (O.tr h0 tk pa) h7) (Hds.sound hs O h8)
      rw [← O.K] at g
      exact g
    · cases h
  | .ddel d k, v, t, e, X, W, O, h => by
    simp only [Sm.chk] at h
    split at h
    · simp only [Bool.and_eq_true] at h
      exact ps_ddel (Xp.sound d O h.1) (Xp.sound k O h.2)
    · cases h
  | .never, v, t, e, X, W, O, h => ps_never
theorem Sms.sound : ∀ (c : Sms) {v : Ev} {t : CK} {l : List Stmt} {X : Cx} {W : WX}, Ok v fa m t X W → c.chk t l = true → PSs X l (c.den v W)
  | .nil, v, t, [], X, W, O, h => pss_nil
  | .nil, v, t, _ :: _, X, W, O, h => by cases h
  | .cons a r, v, t, [], X, W, O, h => by cases h
  | .cons a r, v, t, s :: ss, X, W, O, h => by
    simp only [Sms.chk, Bool.and_eq_true] at h
    exact pss_cons (Sm.sound a O h.1) (Sms.sound r O h.2)
theorem Hds.sound : ∀ (c : Hds) {v : Ev} {t : CK} {l : List ExceptHandler} {X : Cx} {W : WX}, Ok v fa m t X W → c.chk t l = true → HdsOk X l (c.den v)
  | .nil, v, t, [], X, W, O, h => .nil
  | .nil, v, t, _ :: _, X, W, O, h => by cases h
  | .cons C sb r, v, t, l, X, W, O, h => by
    simp only [Hds.chk] at h
    split at h
    · rename_i x p0 b0 su p1 hds
      simp only [Bool.and_eq_true] at h
      obtain ⟨⟨⟨⟨⟨h1, h2⟩, h3⟩, h4⟩, h8⟩, h9⟩ := h
      have h1 := of_decide_eq_true h1
      subst h1
      have hmc := O.clsIn h4
      exact .cons ⟨O.gl h2, dbg1 h3, .inl hmc⟩ (fun a oe cls d pn hz hf => Sms.sound sb (O.suite hz hf) h8) (Hds.sound r O h9)
    · cases h
end
end

/-- a def as code: its parameters, its names (the parameters first), its body -/
structure Df where
  ps : List Str
  N : List Str
  body : Sms
  kw : List Str
/-- the promise of each def by its own body, n deep -/
def spOf (v : Ev) (D : Nat → Df) : Nat → Nat → Sp
  | 0, _ => fun _ _ _ _ => False
  | n + 1, f => fun vs H Q E => vs.length = (D f).ps.length ∧
      (D f).body.den { v with sp := spOf v D n } (fun c d _ H' => E c d H') { nx := fun _ H' => Q .non H', rt := Q } (start (D f).N vs) H

/-- a def as it stands behind the top, and its code -/
structure DfOk (P : Program) (w : World) (mg : Str → Option Value) (K : PySem.W.Frag) (t : CK) (d : Df) (f : Addr) (fd : FuncData) : Prop where
  ex : ∃ (name qual : Str) (params : Arguments) (body : List Stmt) (scope : Scope) (dV kV doc pm cdv ct oc : Value) (an od : Option Addr) (osl : Array (Option Value)),
    fd = PySem.W.fnOf name qual params body scope dV kV doc pm an cdv ct ∧ K.lookup f = some ⟨oc, od, .func (PySem.W.fnOf name qual params body scope dV kV doc pm an cdv ct), osl⟩ ∧ PySem.W.codeIn K cdv qual = true ∧ FnScope d.N d.ps scope ∧
      d.body.chk { t with N := d.N, sc := scope, blk := false } body = true ∧ Bnd K (PySem.W.fnOf name qual params body scope dV kV doc pm an cdv ct) d.ps d.kw

/-- the program's facts but the promises -/
structure Base (P : Program) (mg : Str → Option Value) (v : Ev) (fa : Nat → Addr) (t : CK) : Prop where
  calls : ∀ f ∈ t.calls, mg (t.fn f) = some (.ref (fa f)) ∧ PySem.W.keepIn v.K (.ref (fa f)) = true
  mths : ∀ q ∈ t.mths, Cls v.K (v.cls q.1) ∧ Meth v.K (v.cls q.1) q.2.2 (fa q.2.1)
  mks : ∀ q ∈ t.mks, mg (t.cn q.1) = some (.ref (v.cls q.1)) ∧ Mk v.K (v.cls q.1) (fa q.2)
  flds : ∀ q ∈ t.flds, Cls v.K (v.cls q.1) ∧ NoAttr v.K (v.cls q.1) q.2
  gls : ∀ i ∈ t.gls, ∃ u, mg (t.gn i) = some u ∧ RelV (v.gv i) u
  bts : ∀ x ∈ btNames, mg x = none
  exs : ∀ q ∈ t.exs, mg (t.cn q.1) = some (.ref (v.cls q.1)) ∧ ExCls P v.K (v.cls q.1) q.2 ∧ ExcC v.K (v.cls q.1)
  bss : ∀ C ∈ t.bases, mg (t.cn C) = some (.ref (v.cls C))
  vxs : v.exs = t.exs
  cold : t.hot = false

theorem room65 {k : Nat} {A : Around} (hr : RoomG (k + 1) A) : A.units + 65 < cLine := by have := hr.r.un; omega
def inFn (t : CK) (f : Nat) : Prop := f ∈ t.calls ∨ (∃ C nm, (C, f, nm) ∈ t.mths) ∨ ∃ C, (C, f) ∈ t.mks
theorem all_fn {P : Program} {w : World} {mg : Str → Option Value} {base : Heap} {v : Ev} {fa : Nat → Addr} {t : CK} {D : Nat → Df} (sm : SysM base) (B : Base P mg v fa t)
    (hkw : ∀ f, (D f).kw = t.kw f) (hd : ∀ f, inFn t f → ∃ fd, DfOk P w mg v.K t (D f) (fa f) fd) : ∀ n f fd, DfOk P w mg v.K t (D f) (fa f) fd → FnG P w v.K mg base (2 * n) (fa f) fd (D f).ps (spOf v D n f) ∧ Bnd v.K fd (D f).ps (D f).kw
  | 0, f, fd, h => by
    obtain ⟨name, qual, params, body, scope, dV, kV, doc, pm, cdv, ct, oc, an, od, osl, e, lk, hcd, S, ck, b⟩ := h.ex
    subst e
    exact ⟨⟨fun vs H Q E h => h.elim, fun A outer s H args us vs Q E _ _ _ _ h => h.elim⟩, b⟩
  | n + 1, f, fd, h => by
    have ih := all_fn (base := base) sm B hkw hd n
    obtain ⟨name, qual, params, body, scope, dV, kV, doc, pm, cdv, ct, oc, an, od, osl, e, lk, hcd, S, ck, b⟩ := h.ex
    subst e
    refine ⟨fnG_of (k := 2 * n + 1) lk hcd S (fun vs H Q E h => h.1) fun A outer s H vs Q E hr h => ⟨_, ?_, h.2⟩, b⟩
    have cold := B.cold
    refine Sms.sound (m := 2 * n) (fa := fa) (t := { t with N := (D f).N, sc := scope, blk := false }) (D f).body ?_ ck
    exact { F := ⟨fun g hg => let ⟨fd, h⟩ := hd g hg; ⟨fd, _, (ih g fd h).1, hkw g ▸ (ih g fd h).2⟩, B.calls, B.mths, B.mks, B.flds, B.gls, B.bts, B.exs, B.bss, B.vxs, sm⟩, K := rfl, N := rfl, sc := rfl, nd := S.nd, calm := fun _ => rfl, room := fun _ => hr, grd := hr.g, u65 := room65 hr, tk := fun _ => takes_of rfl rfl rfl rfl, pas := passes_of rfl, fnc := fun _ _ => rfl, own := fun _ _ _ => rfl, top := fun _ => ⟨rfl, rfl⟩, suit := fun z => by rw [show t.hot = true from z] at cold; cases cold }
end DI

/-! DI, part 9: the law's end. -/
namespace DI
open L2
open PySem.Spec
open PyProof.Rows hiding St
open PySem

theorem lawG {P : Program} {w : World} {K : PySem.W.Frag} {mg mb : Str → Option Value} {k : Nat} {fa a : Addr} {fd : FuncData} {x : Str} {sp : Sp} {t : Shared} {vs : List Value} {ns : List Int}
    (KX : K.In t.heap) (hsm : ∃ mm, t.heap.Ns sysModules mm) (hns : t.heap.Ns mainGlobals mg) (hb : t.heap.Ns builtinsNs mb) (hbb : ∀ x : Str, x ≠ "__name__" → mb x = bootBuiltins x) (hlim : t.heap.NoLimit) (hg : t.gens = #[])
    (ha : t.heap.get? a = some { cls := .type "list", data := .seq vs.toArray }) (hi : IntsAre vs ns) (hl : ns.length ≤ sizeLine) (hr : RoomG k callerA)
    (F : ∀ base : Heap, K.In base → base.Ns mainGlobals mg → SysM base → FnG P w K mg base k fa fd [x] sp) (hbind : ∀ (s : Shared) (u : Value), K.In s.heap → BindsTo s fd ⟨[u], []⟩ [(x, u)])
    (hsp : ∀ H : Hp, Only H → SqL K H a (ns.map V.int) → sp [.ref a] H (fun v _ => v = .bl true) fun _ _ _ => False) :
    codeAny (model P w) callerA (.call (.ref fa) ⟨[.ref a], []⟩) (fun r s' => r = .ok (.ret (.bool true)) ∧ OldK t.heap s'.heap ∧ s'.os = t.os ∧ AllBare s'.gens) t := by
  have rvs := vals_ints hi
  have core : ∀ H : Hp, Only H → SqL K H a (ns.map V.int) → HOk P w H t.heap → (∀ b, H b ≠ none → b = a) → (H a ≠ none → K.lookup a = none) →
      codeAny (model P w) callerA (.call (.ref fa) ⟨[.ref a], []⟩) (fun r s' => r = .ok (.ret (.bool true)) ∧ OldK t.heap s'.heap ∧ s'.os = t.os ∧ AllBare s'.gens) t := by
    intro H only hS hok atA noK
    have dictFree : ∀ {b : Addr} {o : Obj} {es : Array DictEntry} {ep : Nat}, t.heap.get? b = some o → o.data = .dict es ep → H b = none := by
      intro b o es ep e d
      cases q : H b with
      | none => rfl
      | some u =>
        cases atA b (by rw [q]; simp)
        rw [ha] at e
        cases e
        cases d
    have nsT : ∀ {b : Addr} {f : Str → Option Value}, t.heap.Ns b f → (hidT t.heap H).Ns b f := by
      rintro b f ⟨o, es, ep, e, d, r⟩
      exact ⟨o, es, ep, hidT_get e (dictFree e d), d, r⟩
    have kin : K.In (hidT t.heap H) := by
      intro b o e
      refine hidT_get (KX b o e) ?_
      cases q : H b with
      | none => rfl
      | some u =>
        cases atA b (by rw [q]; simp)
        rw [noK (by rw [q]; simp)] at e
        cases e
    have md : Mod K mg (hidT t.heap H) := by
      obtain ⟨mc, l1, l2⟩ := hlim
      exact ⟨kin, nsT hns, ⟨mb, nsT hb, hbb⟩, ⟨mc, nsT l1, l2⟩⟩
    have e0 : Env0 P w K mg (hidT t.heap H) callerA [] t H := ⟨rfl, md, fun b o e => of_hidT e, Nat.le_of_eq (hidT_size _ _), trivial, (fun b z => by cases z), hok, .of_eq hg⟩
    refine codeAny_mono ((F _ kin (nsT hns) (by obtain ⟨mm, hm⟩ := hsm; obtain ⟨o, es, ep, e, d, _⟩ := nsT hm; exact ⟨o, es, ep, e, d⟩)).run callerA [] t H ⟨[.ref a], []⟩ [.ref a] [.ref a] _ _ hr e0 (hbind t (.ref a) KX) (.cons rfl .nil) (hsp H only hS)) fun r s' h => ?_
    rcases r with e | fl
    · obtain ⟨_, _, _, _, _, _, _, _, _, _, _, _, z⟩ := h
      exact z.elim
    · rcases fl with _ | _ | _ | u
      all_goals try exact False.elim h
      obtain ⟨z, H', os, bare, un, hok', rz, q⟩ := h
      have q : z = .bl true := q
      subst q
      cases rz
      refine ⟨rfl, OldK.of_keep fun b o e => ?_, os, bare⟩
      cases q : H b with
      | none => exact un.keep b o e q (by intro z; cases z) (by simp)
      | some u =>
        rcases only b with z | ⟨ob, xs, z⟩
        · rw [q] at z; cases z
        · have w1 := (hok b _ z).1
          have w2 := (hok' b _ (un.frzs b ob _ z)).1
          rw [e] at w1
          cases w1
          exact w2
  cases hk : K.lookup a with
  | some o =>
    have e := KX a o hk
    rw [ha] at e
    cases e
    exact core (fun _ => none) (fun _ => .inl rfl) (.inr ⟨_, vs.toArray, _, hk, rfl, rfl, rfl, by rw [List.size_toArray, hi.length]; exact hl, by simpa using rvs⟩) (fun b u z => by cases z) (fun b z => absurd rfl z) fun z => absurd rfl z
  | none =>
    refine core (fun b => if b = a then some (.frz { cls := .type "list", data := .seq vs.toArray } (.lst (ns.map V.int))) else none) (fun b => ?_) (.inl (.inr ⟨_, if_pos rfl⟩)) (fun b u z => ?_) (fun b z => ?_) fun _ => hk
    · by_cases hb : b = a
      · exact .inr ⟨_, _, if_pos hb⟩
      · exact .inl (if_neg hb)
    · by_cases hb : b = a
      · have y := (if_pos hb).symm.trans z
        cases y
        subst hb
        exact ⟨ha, by rw [List.length_map]; exact hl, vs, _, rvs, ha⟩
      · have y := (if_neg hb).symm.trans z
        cases y
    · by_cases hb : b = a
      · exact hb
      · exact absurd (if_neg hb) z

/-- the goal behind the head, from the program's facts and the law's promise -/
theorem walkG {l : PySem.W.OpenLaw} {q : Program} {loose : List Str} {XP : (Str → Option Value) → Heap → Prop} {YP : World → Heap → Prop} {d : DefRec} {K : Params → PySem.W.Frag} {x : Str} (m : Nat)
    (hq : importsNone q = true) (hn : l.most = some 63) (hdf : d.params.defaults = []) (hr : RoomG (2 * m) callerA) (hY : ∀ (w : World) (h : Heap), YP w h → (K w.params).In h)
    (F : ∀ (w : World) (mg : Str → Option Value) (fa : Addr) (h : Heap), (K w.params).In h → h.Ns mainGlobals mg → mg d.name = some (.ref fa) →
      ∃ (fd : FuncData) (sp : Sp), (∀ (s : Shared) (u : Value), (K w.params).In s.heap → BindsTo s fd ⟨[u], []⟩ [(x, u)]) ∧
        (∀ base : Heap, SysM base → FnG l.prog w (K w.params) mg base (2 * m) fa fd [x] sp) ∧
        ∀ (H : Hp) (a : Addr) (ns : List Int), ns.length ≤ 63 → SqL (K w.params) H a (ns.map V.int) → sp [.ref a] H (fun v _ => v = .bl true) fun _ _ _ => False) :
    PySem.W.WalkO q loose XP YP l.row.toRowW d [] (fun f vs => PySem.call f vs) := by
  refine Att.attach_call hn hdf fun w s₀ s₁ mg mb fa o pm cd doc a vs ns G Y ho hd hcd hmg hobj hints hlen hg => ?_
  have KX := hY w _ Y
  obtain ⟨fd, sp, hb, hF, hS⟩ := F w mg fa _ KX G.T.g hmg
  exact lawG KX (by obtain ⟨mm, hm, _⟩ := (G.T.seer hq).mods; exact ⟨mm, hm⟩) G.T.g G.T.b G.T.builtins G.T.nolimit hg hobj hints (Nat.le_trans hlen (by rw [sizeLine_eq]; decide)) hr (fun base _ _ sm => hF base sm) hb fun H _ h => hS H a ns hlen h
end DI

/-! DI, part 10: a program's code and facts brought together. -/
namespace DI
open L2
open PySem.Spec
open PyProof.Rows hiding St
open PySem

/-- a text by its signs -/
def S (l : List Nat) : Str := ⟨l.toArray⟩

def AllL {α : Type} (p : α → Prop) : List α → Prop
  | [] => True
  | a :: r => p a ∧ AllL p r
theorem allL {α : Type} {p : α → Prop} : ∀ {l : List α}, AllL p l → ∀ a ∈ l, p a
  | [], _, _, h => by cases h
  | b :: r, h, a, ha => by
    rcases List.mem_cons.mp ha with e | ha
    · rw [e]; exact h.1
    · exact allL h.2 a ha
inductive DfAll (P : Program) (w : World) (mg : Str → Option Value) (K : PySem.W.Frag) (t : CK) : List Df → List Addr → Prop
  | nil : DfAll P w mg K t [] []
  | cons {d : Df} {ds : List Df} {f : Addr} {fs : List Addr} (h : ∃ fd, DfOk P w mg K t d f fd) (r : DfAll P w mg K t ds fs) : DfAll P w mg K t (d :: ds) (f :: fs)
theorem DfAll.get {P : Program} {w : World} {mg : Str → Option Value} {K : PySem.W.Frag} {t : CK} {d0 : Df} : ∀ {ds : List Df} {fs : List Addr}, DfAll P w mg K t ds fs → ∀ i, i < ds.length → ∃ fd, DfOk P w mg K t (ds.getD i d0) (fs.getD i 0) fd
  | _, _, .nil, i, h => absurd h (Nat.not_lt_zero i)
  | _, _, .cons h r, 0, _ => h
  | _, _, .cons h r, i + 1, hi => DfAll.get r i (Nat.lt_of_succ_lt_succ hi)
theorem dfOk_mk {P : Program} {w : World} {mg : Str → Option Value} {K : PySem.W.Frag} {t : CK} {d : Df} {st : Stmt} {x qual : Str} {f : Addr} {oc kV doc pm cdv ct : Value} {od an : Option Addr} {osl : Array (Option Value)}
    (l : K.lookup f = some ⟨oc, od, .func (PySem.W.fnOf x qual (defArgs st) (defBody st) (defScope st) .none kV doc pm an cdv ct), osl⟩) (c : PySem.W.codeIn K cdv qual = true)
    (s : C8.scC d.N d.ps (defScope st) = true) (ck : d.body.chk { t with N := d.N, sc := defScope st, blk := false } (defBody st) = true)
    (b : ∀ (kV doc pm : Value) (an : Option Addr) (cdv ct : Value) (us ws : List Value), us.length = d.ps.length - d.kw.length → ws.length = d.kw.length → bindArgs (PySem.W.fnOf x qual (defArgs st) (defBody st) (defScope st) .none kV doc pm an cdv ct) ⟨us, d.kw.zip ws⟩ = pure (d.ps.zip (us ++ ws))) :
    ∃ fd, DfOk P w mg K t d f fd := ⟨_, ⟨x, qual, _, _, _, _, kV, doc, pm, cdv, ct, oc, an, od, osl, rfl, l, c, C8.fnScope_by s, ck, fun s us ws hk h1 h2 => .of_eq (b kV doc pm an cdv ct us ws (by rw [List.length_append] at h2; omega) h1)⟩⟩
/-- every number that is called is one of the defs' -/
def inB (t : CK) (n : Nat) : Bool := (t.calls.all fun f => decide (f < n)) && (t.mths.all fun q => decide (q.2.1 < n)) && t.mks.all fun q => decide (q.2 < n)
theorem inB_of {t : CK} {n f : Nat} (h : inB t n = true) (hf : inFn t f) : f < n := by
  unfold inB at h
  simp only [Bool.and_eq_true, List.all_eq_true, decide_eq_true_eq] at h
  rcases hf with hf | ⟨C, nm, hf⟩ | ⟨C, hf⟩
  · exact h.1.1 f hf
  · exact h.1.2 _ hf
  · exact h.2 _ hf
theorem law_end {P : Program} {w : World} {mg : Str → Option Value} {v : Ev} {t : CK} {Dl : List Df} {d0 : Df} {fl : List Addr} {x : Str} (lawi m : Nat) (B : Base P mg v (fun i => fl.getD i 0) t) (A : DfAll P w mg v.K t Dl fl)
    (hkw : ∀ f, (Dl.getD f d0).kw = t.kw f) (hk0 : (Dl.getD lawi d0).kw = []) (hi : inB t Dl.length = true) (hl : t.calls.contains lawi = true) (hx : (Dl.getD lawi d0).ps = [x]) :
    ∃ fd : FuncData, (∀ (s : Shared) (u : Value), v.K.In s.heap → BindsTo s fd ⟨[u], []⟩ [(x, u)]) ∧
      ∀ base : Heap, SysM base → FnG P w v.K mg base (2 * m) (fl.getD lawi 0) fd [x] (spOf v (fun i => Dl.getD i d0) m lawi) := by
  have hf : inFn t lawi := .inl (by simpa using hl)
  have hd : ∀ f, inFn t f → ∃ fd, DfOk P w mg v.K t (Dl.getD f d0) (fl.getD f 0) fd := fun f h => A.get f (inB_of hi h)
  obtain ⟨fd, h⟩ := hd lawi hf
  have b : Bnd v.K fd (Dl.getD lawi d0).ps (Dl.getD lawi d0).kw := by
    obtain ⟨name, qual, params, body, scope, dV, kV, doc, pm, cdv, ct, oc, an, od, osl, e, lk, hcd, S, ck, b⟩ := h.ex
    subst e
    exact b
  rw [hx, hk0] at b
  refine ⟨fd, fun s u hk => ?_, fun base sm => ?_⟩
  · have q := b s [u] [] hk rfl rfl
    exact q
  · have F := (all_fn (base := base) (D := fun i => Dl.getD i d0) sm B hkw hd m lawi fd h).1
    rw [hx] at F
    exact F
end DI

/-! DI, part 11: worlds. A heap and the addresses whose objects never change again; deep readings; frames. -/
namespace DI
open L2
open PySem.Spec
open PyProof.Rows hiding St
open PySem

structure Wd where
  H : Hp
  S : Addr → Prop
  wf : ∀ b, S b → ∃ o, H b = some o

mutual
/-- x stands for d, all of it sealed -/
inductive Dv (w : Wd) : V → PyData → Prop
  | non : Dv w .non .none
  | bl (b : Bool) : Dv w (.bl b) (.bool b)
  | int (i : Int) : Dv w (.int i) (.int i)
  | str (x : Str) : Dv w (.str x) (.str x)
  | lst {a : Addr} {xs : List V} {ds : List PyData} (s : w.S a) (h : w.H a = some (.lst xs)) (r : Dvs w xs ds) : Dv w (.ref a) (.list ds)
  | tup {a : Addr} {xs : List V} {ds : List PyData} (s : w.S a) (h : w.H a = some (.tup xs)) (r : Dvs w xs ds) : Dv w (.ref a) (.tuple ds)
  | dic {a : Addr} {kvs : List (Key × V)} {ds : List PyData} (s : w.S a) (h : w.H a = some (.dK kvs)) (r : Dvs w (kvs.map (·.2)) ds) : Dv w (.ref a) (.dict ((kvs.map fun kv => kD kv.1).zip ds))
inductive Dvs (w : Wd) : List V → List PyData → Prop
  | nil : Dvs w [] []
  | cons {x : V} {xs : List V} {d : PyData} {ds : List PyData} (h : Dv w x d) (r : Dvs w xs ds) : Dvs w (x :: xs) (d :: ds)
end

/-- from w to w' only what T names was written, or sealed -/
structure Ex (T : List Addr) (w w' : Wd) : Prop where
  op : ∀ b ∈ T, ¬ w.S b
  sub : ∀ b, w.S b → w'.S b
  kp : ∀ b o, w.H b = some o → b ∉ T → w'.H b = some o
  nw : ∀ b, w'.S b → w.S b ∨ w.H b = none ∨ b ∈ T
  al : ∀ b o, w.H b = some o → ∃ o', w'.H b = some o'
/-- an open object -/
structure Op (w : Wd) (a : Addr) (o : HO) : Prop where
  h : w.H a = some o
  n : ¬ w.S a

theorem Ex.refl (w : Wd) : Ex [] w w := ⟨fun _ h => (by cases h), fun _ h => h, fun _ _ h _ => h, fun _ h => .inl h, fun _ o h => ⟨o, h⟩⟩
theorem Ex.free {T : List Addr} {w w' : Wd} (e : Ex T w w') {b : Addr} (h : w'.H b = none) : w.H b = none := by
  cases q : w.H b with
  | none => rfl
  | some o => obtain ⟨o', r⟩ := e.al b o q; rw [h] at r; cases r
theorem Ex.trans {T U : List Addr} {w w1 w2 : Wd} (e : Ex T w w1) (f : Ex U w1 w2) (s : ∀ b ∈ U, b ∈ T ∨ w.H b = none) : Ex T w w2 := by
  refine ⟨e.op, fun b h => f.sub b (e.sub b h), fun b o h n => f.kp b o (e.kp b o h n) fun hb => ?_, fun b h => ?_, fun b o h => ?_⟩
  · rcases s b hb with h' | h'
    · exact n h'
    · rw [h] at h'; cases h'
  · rcases f.nw b h with h | h | h
    · exact e.nw b h
    · exact .inr (.inl (e.free h))
    · rcases s b h with h | h
      · exact .inr (.inr h)
      · exact .inr (.inl h)
  · obtain ⟨o', h⟩ := e.al b o h
    exact f.al b o' h
theorem Ex.more {T U : List Addr} {w w' : Wd} (e : Ex T w w') (s : ∀ b ∈ T, b ∈ U) (n : ∀ b ∈ U, ¬ w.S b) : Ex U w w' :=
  ⟨n, e.sub, fun b o h m => e.kp b o h fun z => m (s b z), fun b h => (e.nw b h).imp id (Or.imp id (s b)), e.al⟩
mutual
theorem Dv.ex {T : List Addr} {w w' : Wd} (e : Ex T w w') : ∀ {d : PyData} {x : V}, Dv w x d → Dv w' x d
  | _, _, .non => .non
  | _, _, .bl b => .bl b
  | _, _, .int i => .int i
  | _, _, .str x => .str x
  | _, _, .lst s h r => .lst (e.sub _ s) (e.kp _ _ h fun hb => e.op _ hb s) (Dvs.ex e r)
  | _, _, .tup s h r => .tup (e.sub _ s) (e.kp _ _ h fun hb => e.op _ hb s) (Dvs.ex e r)
  | _, _, .dic s h r => .dic (e.sub _ s) (e.kp _ _ h fun hb => e.op _ hb s) (Dvs.ex e r)
theorem Dvs.ex {T : List Addr} {w w' : Wd} (e : Ex T w w') : ∀ {ds : List PyData} {xs : List V}, Dvs w xs ds → Dvs w' xs ds
  | _, _, .nil => .nil
  | _, _, .cons h r => .cons (Dv.ex e h) (Dvs.ex e r)
end
theorem Op.ex {T : List Addr} {w w' : Wd} {a : Addr} {o : HO} (e : Ex T w w') (h : Op w a o) (n : a ∉ T) : Op w' a o :=
  ⟨e.kp _ _ h.h n, fun s => by
    rcases e.nw _ s with q | q | q
    · exact h.n q
    · rw [h.h] at q; cases q
    · exact n q⟩
/-- a fresh address is none of the old ones -/
theorem Op.ne {w : Wd} {a b : Addr} {o : HO} (h : Op w a o) (n : w.H b = none) : a ≠ b := by
  intro e; subst e; rw [h.h] at n; cases n

/-! ### making -/
def Wd.put (w : Wd) (a : Addr) (o : HO) : Wd := ⟨upd w.H a o, w.S, fun b h => by
  by_cases e : b = a
  · exact ⟨o, by subst e; exact upd_same⟩
  · rw [upd_ne e]; exact w.wf b h⟩
def Wd.seal (w : Wd) (a : Addr) (o : HO) (h : w.H a = some o) : Wd := ⟨w.H, fun b => w.S b ∨ b = a, fun b q => by
  rcases q with q | q
  · exact w.wf b q
  · subst q; exact ⟨o, h⟩⟩
theorem Wd.notS {w : Wd} {a : Addr} (h : w.H a = none) : ¬ w.S a := fun s => by obtain ⟨o, q⟩ := w.wf a s; rw [h] at q; cases q
theorem ex_new {w : Wd} {p : Addr} {o : HO} (h : w.H p = none) : Ex [] w (w.put p o) :=
  ⟨fun _ z => (by cases z), fun _ z => z, fun b u e _ => by
    show upd w.H p o b = some u
    rw [upd_ne (fun z => by subst z; rw [h] at e; cases e)]; exact e, fun _ z => .inl z, fun b u e => by
    by_cases z : b = p
    · exact ⟨o, by subst z; exact upd_same⟩
    · exact ⟨u, by show upd w.H p o b = some u; rw [upd_ne z]; exact e⟩⟩
theorem op_new {w : Wd} {p : Addr} {o : HO} (h : w.H p = none) : Op (w.put p o) p o := ⟨upd_same, (Wd.notS h : ¬ w.S p)⟩
theorem ex_set {w : Wd} {p : Addr} {o u : HO} (h : Op w p u) : Ex [p] w (w.put p o) :=
  ⟨fun b z => by simp only [List.mem_singleton] at z; subst z; exact h.n, fun _ z => z, fun b u e n => by
    simp only [List.mem_singleton] at n
    show upd w.H p o b = some u
    rw [upd_ne n]; exact e, fun _ z => .inl z, fun b u e => by
    by_cases z : b = p
    · exact ⟨o, by subst z; exact upd_same⟩
    · exact ⟨u, by show upd w.H p o b = some u; rw [upd_ne z]; exact e⟩⟩
theorem op_set {w : Wd} {p : Addr} {o u : HO} (h : Op w p u) : Op (w.put p o) p o := ⟨upd_same, h.n⟩
theorem ex_seal {w : Wd} {p : Addr} {o : HO} (h : Op w p o) : Ex [p] w (w.seal p o h.h) :=
  ⟨fun b z => by simp only [List.mem_singleton] at z; subst z; exact h.n, fun _ z => .inl z, fun b u e _ => e, fun b z => by
    rcases z with z | z
    · exact .inl z
    · exact .inr (.inr (by simp [z])), fun b u e => ⟨u, e⟩⟩
/-- an open list is sealed -/
theorem seal_lst {w : Wd} {p : Addr} {xs : List V} {ds : List PyData} (h : Op w p (.lst xs)) (d : Dvs w xs ds) : ∃ w', w'.H = w.H ∧ Ex [p] w w' ∧ Dv w' (.ref p) (.list ds) :=
  ⟨w.seal p _ h.h, rfl, ex_seal h, .lst (.inr rfl) h.h (d.ex (ex_seal h))⟩

theorem seal_dK {w : Wd} {p : Addr} {kvs : List (Key × V)} {ds : List PyData} (h : Op w p (.dK kvs)) (d : Dvs w (kvs.map (·.2)) ds) : ∃ w', w'.H = w.H ∧ Ex [p] w w' ∧ Dv w' (.ref p) (.dict ((kvs.map fun kv => kD kv.1).zip ds)) :=
  ⟨w.seal p _ h.h, rfl, ex_seal h, .dic (.inr rfl) h.h (d.ex (ex_seal h))⟩
theorem Dv.of_dic {w : Wd} {x : V} {m : List (PyData × PyData)} (h : Dv w x (.dict m)) : ∃ a kvs, x = .ref a ∧ w.S a ∧ w.H a = some (.dK kvs) := by
  cases h with
  | dic s h r => exact ⟨_, _, rfl, s, h⟩
/-- what waits for a made object -/
def KNew (o : HO) (Q : VK) (H : Hp) : Prop := ∀ p, H p = none → Q (.ref p) (upd H p o)
theorem new_op {w : Wd} {o : HO} {Q : VK} (h : ∀ w' p, Ex [] w w' → w.H p = none → Op w' p o → Q (.ref p) w'.H) : KNew o Q w.H := fun p hp => h (w.put p o) p (ex_new hp) hp (op_new hp)
theorem new_tup {w : Wd} {xs : List V} {ds : List PyData} {Q : VK} (d : Dvs w xs ds) (h : ∀ w' x, Ex [] w w' → Dv w' x (.tuple ds) → Q x w'.H) : KNew (.tup xs) Q w.H := fun p hp => by
  have e := ex_new (o := .tup xs) hp
  have o := op_new (o := .tup xs) hp
  have s := ex_seal o
  exact h ((w.put p (.tup xs)).seal p _ o.h) (.ref p) (e.trans s fun b z => .inr (by simp only [List.mem_singleton] at z; subst z; exact hp)) (.tup (.inr rfl) o.h ((d.ex e).ex s))
theorem new_lst {w : Wd} {xs : List V} {ds : List PyData} {Q : VK} (d : Dvs w xs ds) (h : ∀ w' x, Ex [] w w' → Dv w' x (.list ds) → Q x w'.H) : KNew (.lst xs) Q w.H := fun p hp => by
  have e := ex_new (o := .lst xs) hp
  have o := op_new (o := .lst xs) hp
  have s := ex_seal o
  exact h ((w.put p (.lst xs)).seal p _ o.h) (.ref p) (e.trans s fun b z => .inr (by simp only [List.mem_singleton] at z; subst z; exact hp)) (.lst (.inr rfl) o.h ((d.ex e).ex s))

/-! ### deep readings, taken apart -/
theorem Dv.of_int {w : Wd} {x : V} {i : Int} (h : Dv w x (.int i)) : x = .int i := by cases h; rfl
theorem Dv.of_str {w : Wd} {x : V} {i : Str} (h : Dv w x (.str i)) : x = .str i := by cases h; rfl
theorem Dv.of_bl {w : Wd} {x : V} {i : Bool} (h : Dv w x (.bool i)) : x = .bl i := by cases h; rfl
theorem Dv.of_non {w : Wd} {x : V} (h : Dv w x .none) : x = .non := by cases h; rfl
theorem Dv.of_lst {w : Wd} {x : V} {ds : List PyData} (h : Dv w x (.list ds)) : ∃ a xs, x = .ref a ∧ w.S a ∧ w.H a = some (.lst xs) ∧ Dvs w xs ds := by
  cases h with
  | lst s h r => exact ⟨_, _, rfl, s, h, r⟩
theorem Dv.of_tup {w : Wd} {x : V} {ds : List PyData} (h : Dv w x (.tuple ds)) : ∃ a xs, x = .ref a ∧ w.S a ∧ w.H a = some (.tup xs) ∧ Dvs w xs ds := by
  cases h with
  | tup s h r => exact ⟨_, _, rfl, s, h, r⟩
theorem Dvs.length {w : Wd} : ∀ {xs : List V} {ds : List PyData}, Dvs w xs ds → xs.length = ds.length
  | _, _, .nil => rfl
  | _, _, .cons _ r => by simp [r.length]
theorem Dvs.get {w : Wd} : ∀ {xs : List V} {ds : List PyData}, Dvs w xs ds → ∀ {i : Nat} {d : PyData}, ds[i]? = some d → ∃ x, xs[i]? = some x ∧ Dv w x d
  | _, _, .nil, i, d, h => by simp at h
  | _, _, .cons h r, 0, d, e => by simp at e; subst e; exact ⟨_, rfl, h⟩
  | _, _, .cons h r, i + 1, d, e => by simpa using r.get (by simpa using e)
theorem Dvs.get' {w : Wd} : ∀ {xs : List V} {ds : List PyData}, Dvs w xs ds → ∀ {i : Nat} {x : V}, xs[i]? = some x → ∃ d, ds[i]? = some d ∧ Dv w x d
  | _, _, .nil, i, d, h => by simp at h
  | _, _, .cons h r, 0, d, e => by simp at e; subst e; exact ⟨_, rfl, h⟩
  | _, _, .cons h r, i + 1, d, e => by simpa using r.get' (by simpa using e)
theorem Dvs.app {w : Wd} : ∀ {xs ys : List V} {ds es : List PyData}, Dvs w xs ds → Dvs w ys es → Dvs w (xs ++ ys) (ds ++ es)
  | _, _, _, _, .nil, h => h
  | _, _, _, _, .cons h r, h' => .cons h (r.app h')
theorem Dvs.snoc {w : Wd} {xs : List V} {ds : List PyData} {x : V} {d : PyData} (h : Dvs w xs ds) (g : Dv w x d) : Dvs w (xs ++ [x]) (ds ++ [d]) := h.app (.cons g .nil)
theorem Dvs.ints {w : Wd} : ∀ (ns : List Int), Dvs w (ns.map V.int) (ns.map PyData.int)
  | [] => .nil
  | n :: r => .cons (.int n) (Dvs.ints r)
theorem Dvs.of_ints {w : Wd} : ∀ {ns : List Int} {xs : List V}, Dvs w xs (ns.map PyData.int) → xs = ns.map V.int
  | [], _, .nil => rfl
  | n :: r, _, .cons (.int _) q => by simp [Dvs.of_ints q]
theorem Dv.ints {w : Wd} {x : V} {ns : List Int} (h : Dv w x (.list (ns.map .int))) : ∃ a, x = .ref a ∧ w.S a ∧ w.H a = some (.lst (ns.map V.int)) := by
  obtain ⟨a, xs, e, s, h, r⟩ := h.of_lst
  rw [r.of_ints] at h
  exact ⟨a, e, s, h⟩
mutual
theorem Dv.dp {K : PySem.W.Frag} {w : Wd} : ∀ {d : PyData} {x : V}, Dv w x d → Dq K w.H x d
  | _, _, .non => .non
  | _, _, .bl b => .bl b
  | _, _, .int b => .int b
  | _, _, .str b => .str b
  | _, _, .lst _ h r => .lst (.inl (.inl h)) r.dp
  | _, _, .tup _ h r => .tup (.inl (.inl h)) r.dp
  | _, _, .dic _ h r => .dic h r.dp
theorem Dvs.dp {K : PySem.W.Frag} {w : Wd} : ∀ {ds : List PyData} {xs : List V}, Dvs w xs ds → DqAll K w.H xs ds
  | _, _, .nil => .nil
  | _, _, .cons h r => .cons h.dp r.dp
end
/-- an open list, read -/
theorem Op.dp {K : PySem.W.Frag} {w : Wd} {a : Addr} {xs : List V} {ds : List PyData} (o : Op w a (.lst xs)) (r : Dvs w xs ds) : Dq K w.H (.ref a) (.list ds) := .lst (.inl (.inl o.h)) r.dp
theorem sqL {K : PySem.W.Frag} {w : Wd} {a : Addr} {xs : List V} (h : w.H a = some (.lst xs)) : SqL K w.H a xs := .inl (.inl h)
theorem sqT {K : PySem.W.Frag} {w : Wd} {a : Addr} {xs : List V} (h : w.H a = some (.tup xs)) : SqT K w.H a xs := .inl (.inl h)
end DI

/-! DI, part 12: the reading, step by step. -/
namespace DI
open L2
open PySem.Spec
open PyProof.Rows hiding St
open PySem

/-- the environment inside a def's body, n calls deep -/
def evAt (v : Ev) (D : Nat → Df) (n : Nat) : Ev := { v with sp := spOf v D n }
theorem evAt_K (v : Ev) (D : Nat → Df) (n : Nat) : (evAt v D n).K = v.K := rfl
section
variable {v : Ev} {D : Nat → Df} {n : Nat} {W : WX} {σ : St} {H : Hp} {Q : VK} {nx bk ct : St → Hp → Prop} {rt : VK}
theorem r_in {f : Nat} {vs : List V} {E : XK} {b : Sms} {N : List Str} {ps kw : List Str} {σ : St} (e : D f = ⟨ps, N, b, kw⟩) (hl : vs.length = ps.length) (hs : start N vs = σ)
    (h : b.den (evAt v D n) (fun c d _ H' => E c d H') ⟨fun _ H' => Q .non H', Q, fun _ _ => False, fun _ _ => False⟩ σ H) : spOf v D (n + 1) f vs H Q E := by
  subst hs
  show vs.length = (D f).ps.length ∧ _
  rw [e]
  exact ⟨hl, h⟩

/-! ### statements -/
/-- what stands behind a statement, not yet looked at -/
def Nx (v : Ev) (r : Sms) (W : WX) (nx : St → Hp → Prop) (rt : VK) (bk ct : St → Hp → Prop) : St → Hp → Prop := fun σ H => r.den v W ⟨nx, rt, bk, ct⟩ σ H
theorem r_nx {r : Sms} (h : r.den v W ⟨nx, rt, bk, ct⟩ σ H) : Nx v r W nx rt bk ct σ H := h
theorem r_one {s : Sm} (h : s.den v W ⟨nx, rt, bk, ct⟩ σ H) : Sms.den v (.cons s .nil) W ⟨nx, rt, bk, ct⟩ σ H := h
theorem r_sq {s : Sm} {r : Sms} (h : s.den v W ⟨Nx v r W nx rt bk ct, rt, bk, ct⟩ σ H) : Sms.den v (.cons s r) W ⟨nx, rt, bk, ct⟩ σ H := h
theorem r_nil (h : nx σ H) : Sms.den v .nil W ⟨nx, rt, bk, ct⟩ σ H := h
/-- a target waits for its value -/
def KTg (v : Ev) (g : Tg) (W : WX) (σ : St) (P : St → Hp → Prop) : VK := fun x H => g.den v W x σ H P
theorem r_asg {g : Tg} {e : Xp} (h : e.den v W σ H (KTg v g W σ nx)) : Sm.den v (.asg g e) W ⟨nx, rt, bk, ct⟩ σ H := h
theorem r_asl {i : Nat} {el : Xp} {tg : Tg} {it : Sq} {ifs : Tto} {own : List Nat} (h : (Xp.lc el tg it ifs own).den v W σ H (KTg v (.nm i) W σ nx)) : Sm.den v (.asl i el tg it ifs own) W ⟨nx, rt, bk, ct⟩ σ H := h
theorem r_exp {e : Xp} (h : e.den v W σ H (fun _ H1 => nx σ H1)) : Sm.den v (.exp e) W ⟨nx, rt, bk, ct⟩ σ H := h
theorem r_ret {e : Xp} (h : e.den v W σ H rt) : Sm.den v (.ret e) W ⟨nx, rt, bk, ct⟩ σ H := h
theorem r_retN (h : rt .non H) : Sm.den v .retN W ⟨nx, rt, bk, ct⟩ σ H := h
theorem r_pass (h : nx σ H) : Sm.den v .pass W ⟨nx, rt, bk, ct⟩ σ H := h
theorem r_brk (h : bk σ H) : Sm.den v .brk W ⟨nx, rt, bk, ct⟩ σ H := h
theorem r_cnt (h : ct σ H) : Sm.den v .cnt W ⟨nx, rt, bk, ct⟩ σ H := h
/-- two ways -/
def KIf (v : Ev) (a b : Sms) (W : WX) (D : Ends) (σ : St) : Bool → Hp → Prop := fun c H => if c = true then a.den v W D σ H else b.den v W D σ H
theorem r_ite {t : Tt} {a b : Sms} {D : Ends} (h : t.den v W σ H (KIf v a b W D σ)) : Sm.den v (.ite t a b) W D σ H := h
theorem kif_t {a b : Sms} {D : Ends} (h : a.den v W D σ H) : KIf v a b W D σ true H := h
theorem kif_f {a b : Sms} {D : Ends} (h : b.den v W D σ H) : KIf v a b W D σ false H := h
theorem kif_d {a b : Sms} {D : Ends} {p : Prop} [Decidable p] (ht : p → a.den v W D σ H) (hf : ¬ p → b.den v W D σ H) : KIf v a b W D σ (decide p) H := by
  by_cases h : p
  · rw [decide_eq_true h]; exact ht h
  · rw [decide_eq_false h]; exact hf h
theorem kif_n {a b : Sms} {D : Ends} {p : Prop} [Decidable p] (ht : ¬ p → a.den v W D σ H) (hf : p → b.den v W D σ H) : KIf v a b W D σ (!decide p) H := by
  by_cases h : p
  · rw [decide_eq_true h]; exact hf h
  · rw [decide_eq_false h]; exact ht h
theorem kif_b {a b : Sms} {D : Ends} {c : Bool} (ht : c = true → a.den v W D σ H) (hf : c = false → b.den v W D σ H) : KIf v a b W D σ c H := by
  cases c with
  | true => exact ht rfl
  | false => exact hf rfl
/-- op= -/
def KAu (K : PySem.W.Frag) (i : Nat) (op : Operator) (x : V) (P : St → Hp → Prop) (σ : St) : VK := fun y H1 => rAug K op x y H1 fun z H2 => P (σ.set i (some z)) H2
def KAg (o : Option (Option V)) (v : Ev) (i : Nat) (op : Operator) (e : Xp) (W : WX) (P : St → Hp → Prop) (σ : St) (H : Hp) : Prop := match o with
  | some (some x) => e.den v W σ H (KAu v.K i op x P σ)
  | _ => False
theorem r_aug {i : Nat} {op : Operator} {e : Xp} (h : KAg σ[i]? v i op e W nx σ H) : Sm.den v (.aug i op e) W ⟨nx, rt, bk, ct⟩ σ H := by
  show tAugA i _ _ _ σ H
  unfold tAugA
  revert h
  unfold KAg
  cases σ[i]? with
  | none => exact id
  | some o => cases o with
    | none => exact id
    | some x => exact id
theorem k_ag {i : Nat} {op : Operator} {e : Xp} {P : St → Hp → Prop} {x : V} (h : e.den v W σ H (KAu v.K i op x P σ)) : KAg (some (some x)) v i op e W P σ H := h
theorem k_aug_add {K : PySem.W.Frag} {i : Nat} {a b : Int} {P : St → Hp → Prop} (h : P (σ.set i (some (.int (a + b)))) H) : KAu K i .Add (.int a) P σ (.int b) H := h
theorem k_aug_adds {K : PySem.W.Frag} {i : Nat} {a b : Str} {P : St → Hp → Prop} (hl : a.length + b.length ≤ sizeLine) (h : P (σ.set i (some (.str (a ++ b)))) H) : KAu K i .Add (.str a) P σ (.str b) H := ⟨hl, h⟩
theorem k_aug_sub {K : PySem.W.Frag} {i : Nat} {a b : Int} {P : St → Hp → Prop} (h : P (σ.set i (some (.int (a - b)))) H) : KAu K i .Sub (.int a) P σ (.int b) H := h

/-! ### targets -/
theorem k_tg {g : Tg} {P : St → Hp → Prop} {x : V} (h : g.den v W x σ H P) : KTg v g W σ P x H := h
theorem k_nm {i : Nat} {P : St → Hp → Prop} {x : V} (h : P (σ.set i (some x)) H) : KTg v (.nm i) W σ P x H := h
theorem g_nm {i : Nat} {P : St → Hp → Prop} {x : V} (h : P (σ.set i (some x)) H) : Tg.den v (.nm i) W x σ H P := h
def KTs (v : Ev) (gs : Tgs) (W : WX) (P : St → Hp → Prop) : List V → St → Hp → Prop := fun xs σ H => gs.den v W xs σ H P
theorem g_tup {w : Wd} {gs : Tgs} {P : St → Hp → Prop} {x : V} {ds : List PyData} (hx : Dv w x (.tuple ds)) (hn : ds.length = gs.len) (h : ∀ xs, Dvs w xs ds → KTs v gs W P xs σ w.H) : Tg.den v (.tup gs) W x σ w.H P := by
  obtain ⟨a, xs, e, s, q, r⟩ := hx.of_tup
  exact .inl ⟨a, xs, e, sqT q, by rw [r.length, hn], h xs r⟩
theorem g_lst {w : Wd} {gs : Tgs} {P : St → Hp → Prop} {x : V} {ds : List PyData} (hx : Dv w x (.list ds)) (hn : ds.length = gs.len) (h : ∀ xs, Dvs w xs ds → KTs v gs W P xs σ w.H) : Tg.den v (.tup gs) W x σ w.H P := by
  obtain ⟨a, xs, e, s, q, r⟩ := hx.of_lst
  exact .inr ⟨a, xs, e, sqL q, by rw [r.length, hn], h xs r⟩
theorem g_nil {P : St → Hp → Prop} (h : P σ H) : KTs v .nil W P [] σ H := ⟨rfl, h⟩
theorem g_cons {g : Tg} {gs : Tgs} {P : St → Hp → Prop} {x : V} {xs : List V} (h : g.den v W x σ H (KTs v gs W P xs)) : KTs v (.cons g gs) W P (x :: xs) σ H := ⟨x, xs, rfl, h⟩
theorem g_cons_nm {i : Nat} {gs : Tgs} {P : St → Hp → Prop} {x : V} {xs : List V} (h : KTs v gs W P xs (σ.set i (some x)) H) : KTs v (.cons (.nm i) gs) W P (x :: xs) σ H := ⟨x, xs, rfl, h⟩
def KSub (v : Ev) (i : Xp) (W : WX) (P : St → Hp → Prop) (x : V) (σ : St) : VK := fun o H => i.den v W σ H fun y H2 => rSetA o y x H2 fun H3 => P σ H3
def KSet (P : St → Hp → Prop) (o x : V) (σ : St) : VK := fun y H => rSetA o y x H fun H3 => P σ H3
theorem g_sub {o i : Xp} {P : St → Hp → Prop} {x : V} (h : o.den v W σ H (KSub v i W P x σ)) : Tg.den v (.sub o i) W x σ H P := h
theorem k_sub {i : Xp} {P : St → Hp → Prop} {o x : V} (h : i.den v W σ H (KSet P o x σ)) : KSub v i W P x σ o H := h
theorem k_set_lst {w : Wd} {a : Addr} {xs : List V} {k : Int} {j : Nat} {x : V} {P : St → Hp → Prop} (o : Op w a (.lst xs)) (hj : ixN xs.length k = some j) (h : ∀ w', Ex [a] w w' → Op w' a (.lst (xs.set j x)) → P σ w'.H) : KSet P (.ref a) x σ (.int k) w.H :=
  RSetR.lst o.h rfl hj (h (w.put a _) (ex_set o) (op_set o))
theorem k_set_dK {w : Wd} {a : Addr} {kvs : List (Key × V)} {k : Key} {x y : V} {P : St → Hp → Prop} (o : Op w a (.dK kvs)) (hy : y = kV k) (hl : kvs.length < sizeLine) (h : ∀ w', Ex [a] w w' → Op w' a (.dK (putK kvs k x)) → P σ w'.H) : KSet P (.ref a) x σ y w.H := by
  subst hy
  exact RSetR.dict (DPut.k o.h hl) (h (w.put a _) (ex_set o) (op_set o))
theorem k_set_dT {w : Wd} {a b : Addr} {kvs : List (List Key × V)} {k : List Key} {x : V} {P : St → Hp → Prop} (o : Op w a (.dT kvs)) (hy : w.H b = some (.tup (k.map kV))) (hl : kvs.length < sizeLine) (h : ∀ w', Ex [a] w w' → Op w' a (.dT (putK kvs k x)) → P σ w'.H) : KSet P (.ref a) x σ (.ref b) w.H :=
  RSetR.dict (DPut.t o.h hy hl) (h (w.put a _) (ex_set o) (op_set o))

/-! ### expressions -/
def KV (o : Option (Option V)) (Q : VK) (H : Hp) : Prop := match o with
  | some (some x) => Q x H
  | _ => False
theorem e_v {i : Nat} (h : KV σ[i]? Q H) : Xp.den v (.v i) W σ H Q := h
theorem k_v {x : V} (h : Q x H) : KV (some (some x)) Q H := h
theorem e_c {x : V} (h : Q x H) : Xp.den v (.c x) W σ H Q := h
theorem e_g {i : Nat} (h : Q (v.gv i) H) : Xp.den v (.g i) W σ H Q := h
theorem e_ty {s : String} (h : Q (.ty s) H) : Xp.den v (.ty s) W σ H Q := h
def KB1 (v : Ev) (op : Operator) (b : Xp) (W : WX) (σ : St) (Q : VK) : VK := fun x H => b.den v W σ H fun y H2 => rBin v.K op x y H2 Q
def KB2 (K : PySem.W.Frag) (op : Operator) (x : V) (Q : VK) : VK := fun y H => rBin K op x y H Q
theorem e_bin {op : Operator} {a b : Xp} (h : a.den v W σ H (KB1 v op b W σ Q)) : Xp.den v (.bin op a b) W σ H Q := h
theorem k_b1 {op : Operator} {b : Xp} {x : V} (h : b.den v W σ H (KB2 v.K op x Q)) : KB1 v op b W σ Q x H := h
section
variable {K : PySem.W.Frag} {i j : Int}
theorem o_add (h : Q (.int (i + j)) H) : KB2 K .Add (.int i) Q (.int j) H := h
theorem o_sub (h : Q (.int (i - j)) H) : KB2 K .Sub (.int i) Q (.int j) H := h
theorem o_mul (c : CMul i j) (h : Q (.int (i * j)) H) : KB2 K .Mult (.int i) Q (.int j) H := ⟨c, h⟩
theorem o_fdv (c : 0 < j) (c2 : j.natAbs.log2 < 9000) (h : Q (.int (i / j)) H) : KB2 K .FloorDiv (.int i) Q (.int j) H := ⟨⟨c, c2⟩, h⟩
theorem o_mod (c : 0 < j) (h : Q (.int (i % j)) H) : KB2 K .Mod (.int i) Q (.int j) H := ⟨c, h⟩
theorem o_pow (c : CPow i j) (h : Q (.int (i ^ j.toNat)) H) : KB2 K .Pow (.int i) Q (.int j) H := ⟨c, h⟩
theorem o_shl (c : CPow i j ∨ CShl i j) (h : Q (.int (i * 2 ^ j.toNat)) H) : KB2 K .LShift (.int i) Q (.int j) H := ⟨c, h⟩
theorem o_shr (c : 0 ≤ j) (h : Q (.int (i / 2 ^ j.toNat)) H) : KB2 K .RShift (.int i) Q (.int j) H := ⟨c, h⟩
theorem o_and (h : Q (.int (Builtin.bitAnd i j)) H) : KB2 K .BitAnd (.int i) Q (.int j) H := h
theorem o_or (h : Q (.int (Builtin.bitOr i j)) H) : KB2 K .BitOr (.int i) Q (.int j) H := h
theorem o_xor (h : Q (.int (Builtin.bitXor i j)) H) : KB2 K .BitXor (.int i) Q (.int j) H := h
theorem o_adds {a b : Str} (c : a.length + b.length ≤ sizeLine) (h : Q (.str (a ++ b)) H) : KB2 K .Add (.str a) Q (.str b) H := ⟨c, h⟩
/-- list + list, both open: an open list -/
theorem o_addl {w : Wd} {a b : Addr} {xs ys : List V} (ha : w.H a = some (.lst xs)) (hb : w.H b = some (.lst ys)) (c : xs.length + ys.length ≤ sizeLine) (h : KNew (.lst (xs ++ ys)) Q w.H) : KB2 K .Add (.ref a) Q (.ref b) w.H :=
  RCat.lst ha hb c h
theorem o_addL {w : Wd} {x y : V} {ds es : List PyData} (ha : Dv w x (.list ds)) (hb : Dv w y (.list es)) (c : ds.length + es.length ≤ sizeLine) (h : ∀ w' z, Ex [] w w' → Dv w' z (.list (ds ++ es)) → Q z w'.H) : KB2 K .Add x Q y w.H := by
  obtain ⟨a, xs, rfl, s, ha, r⟩ := ha.of_lst
  obtain ⟨b, ys, rfl, t, hb, u⟩ := hb.of_lst
  exact RCat.lst ha hb (by rw [r.length, u.length]; exact c) (new_lst (r.app u) h)
theorem o_addT {w : Wd} {x y : V} {ds es : List PyData} (ha : Dv w x (.tuple ds)) (hb : Dv w y (.tuple es)) (c : ds.length + es.length ≤ sizeLine) (h : ∀ w' z, Ex [] w w' → Dv w' z (.tuple (ds ++ es)) → Q z w'.H) : KB2 K .Add x Q y w.H := by
  have ha0 := ha; have hb0 := hb
  obtain ⟨a, xs, rfl, s, ha, r⟩ := ha.of_tup
  obtain ⟨b, ys, rfl, t, hb, u⟩ := hb.of_tup
  refine RCat.tup (sqT ha) (sqT hb) (by rw [r.length, u.length]; exact c) (fun e => ?_) (fun _ e => ?_) fun _ _ => new_tup (r.app u) h
  · subst e
    have : ds = [] := by cases r; rfl
    subst this
    exact h w _ (Ex.refl w) hb0
  · subst e
    have : es = [] := by cases u; rfl
    subst this
    exact h w _ (Ex.refl w) (by simpa using ha0)
/-- [x] * k -/
theorem o_rep {w : Wd} {a : Addr} {xs : List V} {k : Int} (ha : w.H a = some (.lst xs)) (h1 : -(2 ^ 63) ≤ k) (h2 : k < 2 ^ 63) (c : xs.length * k.toNat ≤ sizeLine) (h : KNew (.lst (List.replicate k.toNat xs).flatten) Q w.H) : KB2 K .Mult (.ref a) Q (.int k) w.H :=
  RRep.lst ha h1 h2 c h
end
theorem e_neg {a : Xp} (h : a.den v W σ H (fun x H1 => rU (fun i => .int (-i)) x H1 Q)) : Xp.den v (.neg a) W σ H Q := h
theorem k_neg {i : Int} (h : Q (.int (-i)) H) : rU (fun i => .int (-i)) (.int i) H Q := ⟨i, rfl, h⟩
def KC1 (v : Ev) (op : CmpOp) (b : Xp) (W : WX) (σ : St) (P : Bool → Hp → Prop) : VK := fun x H => b.den v W σ H fun y H2 => rCmpB v.K op x y H2 fun c => P c H2
def KC2 (K : PySem.W.Frag) (op : CmpOp) (x : V) (P : Bool → Hp → Prop) : VK := fun y H => rCmpB K op x y H fun c => P c H
def KBl (Q : VK) : Bool → Hp → Prop := fun c H => Q (.bl c) H
theorem k_bl {c : Bool} (h : Q (.bl c) H) : KBl Q c H := h
theorem e_cmp {op : CmpOp} {a b : Xp} (h : a.den v W σ H (KC1 v op b W σ (KBl Q))) : Xp.den v (.cmp op a b) W σ H Q := h
theorem k_c1 {op : CmpOp} {b : Xp} {x : V} {P : Bool → Hp → Prop} (h : b.den v W σ H (KC2 v.K op x P)) : KC1 v op b W σ P x H := h
section
variable {K : PySem.W.Frag} {i j : Int} {P : Bool → Hp → Prop}
theorem c_eq (h : P (decide (i = j)) H) : KC2 K .Eq (.int i) P (.int j) H := h
theorem c_ne (h : P (!decide (i = j)) H) : KC2 K .NotEq (.int i) P (.int j) H := h
theorem c_lt (h : P (decide (i < j)) H) : KC2 K .Lt (.int i) P (.int j) H := h
theorem c_le (h : P (decide (i ≤ j)) H) : KC2 K .LtE (.int i) P (.int j) H := h
theorem c_gt (h : P (decide (j < i)) H) : KC2 K .Gt (.int i) P (.int j) H := h
theorem c_ge (h : P (decide (j ≤ i)) H) : KC2 K .GtE (.int i) P (.int j) H := h
theorem c_eqs {a b : Str} (h : P (decide (a = b)) H) : KC2 K .Eq (.str a) P (.str b) H := h
theorem c_nes {a b : Str} (h : P (!decide (a = b)) H) : KC2 K .NotEq (.str a) P (.str b) H := h
theorem c_eqb {a b : Bool} (h : P (decide (a = b)) H) : KC2 K .Eq (.bl a) P (.bl b) H := h
theorem c_neb {a b : Bool} (h : P (!decide (a = b)) H) : KC2 K .NotEq (.bl a) P (.bl b) H := h
theorem rEqB_of {x y : V} {Q : Bool → Prop} (h : REq K x y H Q) : rEqB K x y H Q := by
  unfold rEqB
  split
  all_goals try exact h
  all_goals
    cases h with
    | scal _ q => simpa using q
    | deep hd he _ _ q => cases hd; cases he; simpa [PyData.eqv, beq_iff_eq, ← Bool.beq_eq_decide_eq] using q
theorem c_eqD {w : Wd} {x y : V} {d e : PyData} (hd : Dq K w.H x d) (he : Dq K w.H y e) (sd : SeqAt.shaped d = true) (se : SeqAt.shaped e = true) (h : P (PyData.eqv d e) w.H) : KC2 K .Eq x P y w.H := rEqB_of (Q := fun c => P c w.H) (.deep hd he sd se h)
theorem c_neD {w : Wd} {x y : V} {d e : PyData} (hd : Dq K w.H x d) (he : Dq K w.H y e) (sd : SeqAt.shaped d = true) (se : SeqAt.shaped e = true) (h : P (!PyData.eqv d e) w.H) : KC2 K .NotEq x P y w.H := rEqB_of (Q := fun c => P (!c) w.H) (.deep hd he sd se h)
theorem c_isN {x : V} (h : P (decide (x = .non)) H) : KC2 K .Is x P .non H := .inl ⟨rfl, h⟩
theorem c_isnN {x : V} (h : P (!decide (x = .non)) H) : KC2 K .IsNot x P .non H := .inl ⟨rfl, h⟩
theorem c_isB {a b : Bool} (h : P (decide (a = b)) H) : KC2 K .Is (.bl a) P (.bl b) H := .inr ⟨a, b, rfl, rfl, h⟩
theorem c_isnB {a b : Bool} (h : P (!decide (a = b)) H) : KC2 K .IsNot (.bl a) P (.bl b) H := .inr ⟨a, b, rfl, rfl, h⟩
theorem c_in_dK {w : Wd} {a : Addr} {kvs : List (Key × V)} {k : Key} {y : V} (o : w.H a = some (.dK kvs)) (hy : y = kV k) (h : P (valV kvs k).isSome w.H) : KC2 K .In y P (.ref a) w.H := by subst hy; exact RIn.dict (DGet.k o) h
theorem c_nin_dK {w : Wd} {a : Addr} {kvs : List (Key × V)} {k : Key} {y : V} (o : w.H a = some (.dK kvs)) (hy : y = kV k) (h : P (!(valV kvs k).isSome) w.H) : KC2 K .NotIn y P (.ref a) w.H := by subst hy; exact RIn.dict (DGet.k o) h
theorem c_in_l {w : Wd} {a : Addr} {xs : List V} {y : V} (o : w.H a = some (.lst xs)) (fx : flatV y = true) (fs : xs.all flatV = true) (h : P (inV y xs) w.H) : KC2 K .In y P (.ref a) w.H := RIn.flat (.inl (sqL o)) fx fs h
theorem c_nin_l {w : Wd} {a : Addr} {xs : List V} {y : V} (o : w.H a = some (.lst xs)) (fx : flatV y = true) (fs : xs.all flatV = true) (h : P (!inV y xs) w.H) : KC2 K .NotIn y P (.ref a) w.H := RIn.flat (.inl (sqL o)) fx fs h
end
def KAnd (v : Ev) (b : Xp) (W : WX) (σ : St) (Q : VK) : VK := fun x H => match x with
  | .bl k => if k = true then b.den v W σ H Q else Q (.bl false) H
  | _ => False
def KOr (v : Ev) (b : Xp) (W : WX) (σ : St) (Q : VK) : VK := fun x H => match x with
  | .bl k => if k = true then Q (.bl true) H else b.den v W σ H Q
  | _ => False
theorem e_and {a b : Xp} (h : a.den v W σ H (KAnd v b W σ Q)) : Xp.den v (.and a b) W σ H Q := h
theorem e_or {a b : Xp} (h : a.den v W σ H (KOr v b W σ Q)) : Xp.den v (.or a b) W σ H Q := h
theorem k_and {b : Xp} {c : Bool} (ht : c = true → b.den v W σ H Q) (hf : c = false → Q (.bl false) H) : KAnd v b W σ Q (.bl c) H := by
  cases c with
  | true => exact ht rfl
  | false => exact hf rfl
theorem k_or {b : Xp} {c : Bool} (ht : c = true → Q (.bl true) H) (hf : c = false → b.den v W σ H Q) : KOr v b W σ Q (.bl c) H := by
  cases c with
  | true => exact ht rfl
  | false => exact hf rfl
theorem e_not {a : Xp} (h : a.den v W σ H (fun x H1 => match x with | .bl b => Q (.bl (!b)) H1 | _ => False)) : Xp.den v (.not a) W σ H Q := h
def KIx (v : Ev) (a b : Xp) (W : WX) (Q : VK) (σ : St) : Bool → Hp → Prop := fun c H => if c = true then a.den v W σ H Q else b.den v W σ H Q
theorem e_ite {t : Tt} {a b : Xp} (h : t.den v W σ H (KIx v a b W Q σ)) : Xp.den v (.ite t a b) W σ H Q := h
theorem k_ix {a b : Xp} {c : Bool} (ht : c = true → a.den v W σ H Q) (hf : c = false → b.den v W σ H Q) : KIx v a b W Q σ c H := by
  cases c with
  | true => exact ht rfl
  | false => exact hf rfl
/-! argument lists -/
def KAs (v : Ev) (r : Xps) (W : WX) (σ : St) (P : List V → Hp → Prop) : VK := fun x H => r.den v W σ H fun xs H2 => P (x :: xs) H2
def KCn (x : V) (P : List V → Hp → Prop) : List V → Hp → Prop := fun xs H => P (x :: xs) H
theorem a_nil {P : List V → Hp → Prop} (h : P [] H) : Xps.den v .nil W σ H P := h
theorem a_cons {e : Xp} {r : Xps} {P : List V → Hp → Prop} (h : e.den v W σ H (KAs v r W σ P)) : Xps.den v (.cons e r) W σ H P := h
theorem k_as {r : Xps} {P : List V → Hp → Prop} {x : V} (h : r.den v W σ H (KCn x P)) : KAs v r W σ P x H := h
theorem k_cn {P : List V → Hp → Prop} {x : V} {xs : List V} (h : P (x :: xs) H) : KCn x P xs H := h
def KTup (Q : VK) : List V → Hp → Prop := fun xs H1 => xs.length ≤ sizeLine ∧ KNew (.tup xs) Q H1
def KLst (Q : VK) : List V → Hp → Prop := fun xs H1 => xs.length ≤ sizeLine ∧ KNew (.lst xs) Q H1
theorem e_tup {es : Xps} (h : es.den v W σ H (KTup Q)) : Xp.den v (.tup es) W σ H Q := h
theorem e_lst {es : Xps} (h : es.den v W σ H (KLst Q)) : Xp.den v (.lst es) W σ H Q := h
theorem small_len {xs : List V} (h : xs.length ≤ 1000 := by decide) : xs.length ≤ sizeLine := by rw [sizeLine_eq]; omega
theorem k_tup {w : Wd} {xs : List V} {ds : List PyData} (hl : xs.length ≤ 1000) (d : Dvs w xs ds) (h : ∀ w' x, Ex [] w w' → Dv w' x (.tuple ds) → Q x w'.H) : KTup Q xs w.H := ⟨small_len hl, new_tup d h⟩
theorem k_lst {w : Wd} {xs : List V} {ds : List PyData} (hl : xs.length ≤ 1000) (d : Dvs w xs ds) (h : ∀ w' x, Ex [] w w' → Dv w' x (.list ds) → Q x w'.H) : KLst Q xs w.H := ⟨small_len hl, new_lst d h⟩
theorem k_lstO {w : Wd} {xs : List V} (hl : xs.length ≤ 1000) (h : ∀ w' p, Ex [] w w' → w.H p = none → Op w' p (.lst xs) → Q (.ref p) w'.H) : KLst Q xs w.H := ⟨small_len hl, new_op h⟩
theorem e_d0 (h : KNew (.dK []) Q H) : Xp.den v .dct0 W σ H Q := h
theorem e_dT0 (h : KNew (.dT []) Q H) : Xp.den v .dctT0 W σ H Q := h
/-! subscripts -/
def KI1 (v : Ev) (b : Xp) (W : WX) (σ : St) (Q : VK) : VK := fun x H => b.den v W σ H fun y H2 => rIxA v.K x y H2 Q
def KI2 (K : PySem.W.Frag) (x : V) (Q : VK) : VK := fun y H => rIxA K x y H Q
theorem e_ix {a b : Xp} (h : a.den v W σ H (KI1 v b W σ Q)) : Xp.den v (.ix a b) W σ H Q := h
theorem k_i1 {b : Xp} {x : V} (h : b.den v W σ H (KI2 v.K x Q)) : KI1 v b W σ Q x H := h
theorem atI_pos {α : Type} {xs : List α} {i : Int} {y : α} (hi : 0 ≤ i) (e : xs[i.toNat]? = some y) : atI xs i = some y := by
  have hl : i.toNat < xs.length := by
    rcases Nat.lt_or_ge i.toNat xs.length with h | h
    · exact h
    · rw [List.getElem?_eq_none h] at e; cases e
  unfold atI ixN
  rw [if_pos hi, if_pos (by omega)]
  exact e
theorem atI_neg {α : Type} {xs : List α} {i : Int} {y : α} (hi : i < 0) (hl : 0 ≤ i + xs.length) (e : xs[(i + xs.length).toNat]? = some y) : atI xs i = some y := by
  unfold atI ixN
  rw [if_neg (by omega), if_pos (by omega)]
  exact e
section
variable {K : PySem.W.Frag} {w : Wd}
theorem i_L {x : V} {ds : List PyData} {i : Int} {d : PyData} (hx : Dv w x (.list ds)) (hi : 0 ≤ i) (hd : ds[i.toNat]? = some d) (h : ∀ y, Dv w y d → Q y w.H) : KI2 K x Q (.int i) w.H := by
  obtain ⟨a, xs, rfl, s, e, r⟩ := hx.of_lst
  obtain ⟨y, hy, q⟩ := r.get hd
  exact RIxR.lst (sqL e) rfl (atI_pos hi hy) (h y q)
theorem i_T {x : V} {ds : List PyData} {i : Int} {d : PyData} (hx : Dv w x (.tuple ds)) (hi : 0 ≤ i) (hd : ds[i.toNat]? = some d) (h : ∀ y, Dv w y d → Q y w.H) : KI2 K x Q (.int i) w.H := by
  obtain ⟨a, xs, rfl, s, e, r⟩ := hx.of_tup
  obtain ⟨y, hy, q⟩ := r.get hd
  exact RIxR.tup (sqT e) rfl (atI_pos hi hy) (h y q)
theorem i_Li {x : V} {ds : List PyData} {i : Int} {k : Int} (hx : Dv w x (.list ds)) (hi : 0 ≤ i) (hd : ds[i.toNat]? = some (.int k)) (h : Q (.int k) w.H) : KI2 K x Q (.int i) w.H := i_L hx hi hd fun y q => by rw [q.of_int]; exact h
theorem i_Ti {x : V} {ds : List PyData} {i : Int} {k : Int} (hx : Dv w x (.tuple ds)) (hi : 0 ≤ i) (hd : ds[i.toNat]? = some (.int k)) (h : Q (.int k) w.H) : KI2 K x Q (.int i) w.H := i_T hx hi hd fun y q => by rw [q.of_int]; exact h
theorem i_O {a : Addr} {xs : List V} {i : Int} {y : V} (e : w.H a = some (.lst xs)) (hi : 0 ≤ i) (hy : xs[i.toNat]? = some y) (h : Q y w.H) : KI2 K (.ref a) Q (.int i) w.H := RIxR.lst (sqL e) rfl (atI_pos hi hy) h
theorem i_On {a : Addr} {xs : List V} {i : Int} {y : V} (e : w.H a = some (.lst xs)) (hi : i < 0) (hl : 0 ≤ i + xs.length) (hy : xs[(i + xs.length).toNat]? = some y) (h : Q y w.H) : KI2 K (.ref a) Q (.int i) w.H := RIxR.lst (sqL e) rfl (atI_neg hi hl hy) h
theorem i_dK {a : Addr} {kvs : List (Key × V)} {k : Key} {y z : V} (o : w.H a = some (.dK kvs)) (hy : y = kV k) (hz : valV kvs k = some z) (h : Q z w.H) : KI2 K (.ref a) Q y w.H := by
  subst hy
  exact RIxR.dict (by have := DGet.k (k := k) o; rwa [hz] at this) h
/-! len and its like -/
def KBf (K : PySem.W.Frag) (b : Bf) (Q : VK) : List V → Hp → Prop := fun vs H => rBf K b vs H Q
theorem e_bc {b : Bf} {es : Xps} (h : es.den v W σ H (KBf v.K b Q)) : Xp.den v (.bc b es) W σ H Q := h
theorem f_lenL {x : V} {ds : List PyData} (hx : Dv w x (.list ds)) (h : Q (.int ds.length) w.H) : KBf K .len Q [x] w.H := by
  obtain ⟨a, xs, rfl, s, e, r⟩ := hx.of_lst
  exact RLen.lst (sqL e) (by rw [r.length]; exact h)
theorem f_lenT {x : V} {ds : List PyData} (hx : Dv w x (.tuple ds)) (h : Q (.int ds.length) w.H) : KBf K .len Q [x] w.H := by
  obtain ⟨a, xs, rfl, s, e, r⟩ := hx.of_tup
  exact RLen.tup (sqT e) (by rw [r.length]; exact h)
theorem f_lenO {a : Addr} {xs : List V} (e : w.H a = some (.lst xs)) (h : Q (.int xs.length) w.H) : KBf K .len Q [.ref a] w.H := RLen.lst (sqL e) h
theorem f_lenS {s : Str} (hl : s.length ≤ sizeLine) (h : Q (.int s.length) H) : KBf K .len Q [.str s] H := ⟨hl, h⟩
theorem f_int {i : Int} (h : Q (.int i) H) : KBf K .int Q [.int i] H := h
theorem f_intb {b : Bool} (h : Q (.int (if b = true then 1 else 0)) H) : KBf K .int Q [.bl b] H := h
theorem f_abs {i : Int} (h : Q (.int (if i < 0 then -i else i)) H) : KBf K .abs Q [.int i] H := h
theorem f_max {i j : Int} (h : Q (.int (if j > i then j else i)) H) : KBf K .max Q [.int i, .int j] H := h
theorem f_min {i j : Int} (h : Q (.int (if j < i then j else i)) H) : KBf K .min Q [.int i, .int j] H := h
theorem f_isi {x c : V} {t u : Value} {b : Bool} (hc : ClsV c u) (ht : TyX K H x t) (hk : PySem.W.kitOne K t u = some b) (h : Q (.bl b) H) : KBf K .isi Q [x, c] H := ⟨t, u, b, hc, ht, hk, h⟩
theorem f_repr {x : V} {d : PyData} (hd : Dq K H x d) (h1 : d.showable = true) (h3 : d.depth < 63) (h4 : d.shown.length ≤ sizeLine) (h : Q (.str d.shown) H) : KBf K .repr Q [x] H := ⟨d, hd, h1, h3, h4, h⟩
theorem f_tupL {x : V} {ds : List PyData} (hx : Dv w x (.list ds)) (h : ∀ w' y, Ex [] w w' → Dv w' y (.tuple ds) → Q y w'.H) : KBf K .tuple Q [x] w.H := by
  obtain ⟨a, xs, rfl, s, e, r⟩ := hx.of_lst
  exact RTup.lst (sqL e) (new_tup r h)
theorem f_tupO {a : Addr} {xs : List V} {ds : List PyData} (e : w.H a = some (.lst xs)) (r : Dvs w xs ds) (h : ∀ w' y, Ex [] w w' → Dv w' y (.tuple ds) → Q y w'.H) : KBf K .tuple Q [.ref a] w.H := RTup.lst (sqL e) (new_tup r h)
theorem f_lstL {x : V} {ds : List PyData} (hx : Dv w x (.list ds)) (h : ∀ w' y, Ex [] w w' → Dv w' y (.list ds) → Q y w'.H) : KBf K .list Q [x] w.H := by
  obtain ⟨a, xs, rfl, s, e, r⟩ := hx.of_lst
  exact RLst.lst (sqL e) (new_lst r h)
theorem f_lstO {a : Addr} {xs : List V} (e : w.H a = some (.lst xs)) (h : KNew (.lst xs) Q w.H) : KBf K .list Q [.ref a] w.H := RLst.lst (sqL e) h
theorem f_lstOT {a : Addr} {xs : List V} (e : w.H a = some (.tup xs)) (h : KNew (.lst xs) Q w.H) : KBf K .list Q [.ref a] w.H := RLst.tup (sqT e) h
/-! methods of built-in types -/
def KM1 (v : Ev) (m : Bm) (es : Xps) (W : WX) (σ : St) (Q : VK) : VK := fun x H => tyV v.K m.ty x H ∧ es.den v W σ H fun vs H2 => rBm v.K m x vs H2 Q
def KM2 (K : PySem.W.Frag) (m : Bm) (x : V) (Q : VK) : List V → Hp → Prop := fun vs H => rBm K m x vs H Q
theorem e_bm {m : Bm} {o : Xp} {es : Xps} (h : o.den v W σ H (KM1 v m es W σ Q)) : Xp.den v (.bm m o es) W σ H Q := h
theorem m_app {a : Addr} {xs : List V} {x : V} (o : Op w a (.lst xs)) (hl : xs.length < sizeLine) (h : ∀ w', Ex [a] w w' → Op w' a (.lst (xs ++ [x])) → Q .non w'.H) : KM2 K .append (.ref a) Q [x] w.H :=
  ⟨xs, o.h, hl, h (w.put a _) (ex_set o) (op_set o)⟩
theorem m_pop {a : Addr} {xs : List V} {x : V} (o : Op w a (.lst (xs ++ [x]))) (h : ∀ w', Ex [a] w w' → Op w' a (.lst xs) → Q x w'.H) : KM2 K .pop (.ref a) Q [] w.H := by
  have hd : (xs ++ [x]).dropLast = xs := by simp
  refine ⟨xs ++ [x], x, o.h, by simp, ?_⟩
  rw [hd]
  exact h (w.put a _) (ex_set o) (op_set o)
end
/-! calls -/
def KCl (v : Ev) (f : Nat) (W : WX) (σ : St) (Q : VK) : List V → Hp → Prop := fun vs H1 => v.sp f vs H1 Q fun c d H2 => W c d σ H2
theorem e_call {f : Nat} {es : Xps} (h : es.den v W σ H (KCl v f W σ Q)) : Xp.den v (.call f es) W σ H Q := h
theorem k_cl {f : Nat} {vs : List V} (h : spOf v D n f vs H Q fun c d H2 => W c d σ H2) : KCl (evAt v D n) f W σ Q vs H := h
/-! fields -/
theorem e_fld {C : Nat} {o : Xp} {f : Str} (h : o.den v W σ H (fun x H1 => ∃ a dx fs z, x = .ref a ∧ H1 a = some (.ins (v.cls C) dx fs) ∧ fs.lookup f = some z ∧ Q z H1)) : Xp.den v (.fld C o f) W σ H Q := h
/-! tests -/
section
variable {P : Bool → Hp → Prop} {K : PySem.W.Frag}
def KTr (K : PySem.W.Frag) (P : Bool → Hp → Prop) : VK := fun x H => rTru K x H fun b => P b H
theorem t_tr {e : Xp} (h : e.den v W σ H (KTr v.K P)) : Tt.den v (.tr e) W σ H P := h
theorem k_trb {b : Bool} (h : P b H) : KTr K P (.bl b) H := h
theorem k_tri {b : Int} (h : P (decide (b ≠ 0)) H) : KTr K P (.int b) H := h
theorem k_trn (h : P false H) : KTr K P .non H := h
theorem t_cmp {op : CmpOp} {a b : Xp} (h : a.den v W σ H (KC1 v op b W σ P)) : Tt.den v (.cmp op a b) W σ H P := h
def KTA (v : Ev) (b : Tt) (W : WX) (σ : St) (P : Bool → Hp → Prop) : Bool → Hp → Prop := fun c H => if c = true then b.den v W σ H P else P false H
def KTO (v : Ev) (b : Tt) (W : WX) (σ : St) (P : Bool → Hp → Prop) : Bool → Hp → Prop := fun c H => if c = true then P true H else b.den v W σ H P
def KTN (P : Bool → Hp → Prop) : Bool → Hp → Prop := fun c H => P (!c) H
theorem t_and {a b : Tt} (h : a.den v W σ H (KTA v b W σ P)) : Tt.den v (.and a b) W σ H P := h
theorem t_or {a b : Tt} (h : a.den v W σ H (KTO v b W σ P)) : Tt.den v (.or a b) W σ H P := h
theorem t_not {a : Tt} (h : a.den v W σ H (KTN P)) : Tt.den v (.not a) W σ H P := h
theorem k_tn {c : Bool} (h : P (!c) H) : KTN P c H := h
theorem k_ta {b : Tt} {c : Bool} (ht : c = true → b.den v W σ H P) (hf : c = false → P false H) : KTA v b W σ P c H := by
  cases c with
  | true => exact ht rfl
  | false => exact hf rfl
theorem k_to {b : Tt} {c : Bool} (ht : c = true → P true H) (hf : c = false → b.den v W σ H P) : KTO v b W σ P c H := by
  cases c with
  | true => exact ht rfl
  | false => exact hf rfl
end
/-! slices -/
theorem e_sl {a : Xp} {lo hi : Xpo} (h : tSl (rSlAny v.K) (a.den v W) (lo.den v W) (hi.den v W) σ H Q) : Xp.den v (.sl a lo hi) W σ H Q := h

/-! ### loops -/
/-- the end of a turn -/
def KIs (P : St → Wd → Prop) : St → Hp → Prop := fun σ H => ∃ w, H = w.H ∧ P σ w
theorem k_is {P : St → Wd → Prop} {w : Wd} (h : P σ w) : KIs P σ w.H := ⟨w, rfl, h⟩
def KFor (g : TG) (tb : TS) (D : Ends) (σ : St) (J : It) (H1 : Hp) : Prop := ∃ W : Nat → Nat → St → Hp → Prop, (∃ m, W 0 m σ H1) ∧ ∀ i m σ H, W i m σ H →
  (J.stop i H ∧ D.nx σ H) ∨ (J.go i H ∧ ∃ N : St → Hp → Prop, (∀ σ' H', N σ' H' → ∃ m', m' < m ∧ W (i + 1) m' σ' H') ∧ ∀ x H', J.yld i H x H' → g x σ H' fun σ2 H2 => tb { D with nx := N, ct := N, bk := D.nx } σ2 H2)
theorem r_for {g : Tg} {it : Sq} {b : Sms} {D : Ends} (h : it.den v W σ H (KFor (g.den v W) (b.den v W) D σ)) : Sm.den v (.for_ g it b) W D σ H := h
def KR1 (R : It → Hp → Prop) : VK := fun x H => ∃ j : Int, [x] = [.int j] ∧ -(2 ^ 62) ≤ j ∧ j < 2 ^ 62 ∧ R (Itr 0 j.toNat) H
theorem q_rng1 {a : Xp} {R : It → Hp → Prop} (h : a.den v W σ H (KR1 R)) : Sq.den v (.rng1 a) W σ H R := h
theorem k_r1 {j : Int} {R : It → Hp → Prop} (h1 : -(2 ^ 62) ≤ j) (h2 : j < 2 ^ 62) (h : R (Itr 0 j.toNat) H) : KR1 R (.int j) H := ⟨j, rfl, h1, h2, h⟩
def KR2 (v : Ev) (b : Xp) (W : WX) (σ : St) (R : It → Hp → Prop) : VK := fun x H => b.den v W σ H fun y H => ∃ i j : Int, [x, y] = [.int i, .int j] ∧ (-(2 ^ 62) ≤ i ∧ i < 2 ^ 62 ∧ -(2 ^ 62) ≤ j ∧ j < 2 ^ 62) ∧ R (Itr i (j - i).toNat) H
theorem q_rng2 {a b : Xp} {R : It → Hp → Prop} (h : a.den v W σ H (KR2 v b W σ R)) : Sq.den v (.rng2 a b) W σ H R := h
def KR3 (i : Int) (R : It → Hp → Prop) : VK := fun y H => ∃ j : Int, y = .int j ∧ (-(2 ^ 62) ≤ i ∧ i < 2 ^ 62 ∧ -(2 ^ 62) ≤ j ∧ j < 2 ^ 62) ∧ R (Itr i (j - i).toNat) H
theorem k_r2 {i j : Int} {b : Xp} {R : It → Hp → Prop} (c : -(2 ^ 62) ≤ i ∧ i < 2 ^ 62 ∧ -(2 ^ 62) ≤ j ∧ j < 2 ^ 62) (h : b.den v W σ H (fun y H => y = .int j ∧ R (Itr i (j - i).toNat) H)) (mono : ∀ (P P' : VK), (∀ y H, P y H → P' y H) → b.den v W σ H P → b.den v W σ H P') : KR2 v b W σ R (.int i) H :=
  mono _ _ (fun y H q => ⟨i, j, by rw [q.1], c, q.2⟩) h
theorem k_for_rng {lo : Int} {m : Nat} {g : TG} {tb : TS} {w : Wd} (Inv : Nat → St → Wd → Prop) (h0 : Inv 0 σ w)
    (hs : ∀ i σ w, i < m → Inv i σ w → g (.int (lo + i)) σ w.H fun σ2 H2 => tb ⟨KIs (Inv (i + 1)), rt, nx, KIs (Inv (i + 1))⟩ σ2 H2)
    (hd : ∀ σ w, Inv m σ w → nx σ w.H) : KFor g tb ⟨nx, rt, bk, ct⟩ σ (Itr lo m) w.H :=
  for_range (fun i => KIs (Inv i)) (k_is h0) (fun i σ H hi ⟨w, e, p⟩ => by subst e; exact hs i σ w hi p) fun σ H ⟨w, e, p⟩ => by subst e; exact hd σ w p
theorem k_for_lst {K : PySem.W.Frag} {a : Addr} {xs : List V} {g : TG} {tb : TS} {w : Wd} (Inv : Nat → St → Wd → Prop) (hk : ∀ i σ w', Inv i σ w' → w'.H a = some (.lst xs)) (h0 : Inv 0 σ w)
    (hs : ∀ i x σ w, xs[i]? = some x → Inv i σ w → g x σ w.H fun σ2 H2 => tb ⟨KIs (Inv (i + 1)), rt, nx, KIs (Inv (i + 1))⟩ σ2 H2)
    (hd : ∀ σ w, Inv xs.length σ w → nx σ w.H) : KFor g tb ⟨nx, rt, bk, ct⟩ σ (Itl K a) w.H :=
  for_list (xs := xs) (fun i => KIs (Inv i)) (k_is h0) (fun i σ H hi ⟨w, e, p⟩ => by subst e; exact sqL (hk i σ w p)) (fun i x σ H hx ⟨w, e, p⟩ => by subst e; exact hs i x σ w hx p) fun σ H ⟨w, e, p⟩ => by subst e; exact hd σ w p
theorem k_for_tup {K : PySem.W.Frag} {a : Addr} {xs : List V} {g : TG} {tb : TS} {w : Wd} (Inv : Nat → St → Wd → Prop) (hk : ∀ i σ w', Inv i σ w' → w'.H a = some (.tup xs)) (h0 : Inv 0 σ w)
    (hs : ∀ i x σ w, xs[i]? = some x → Inv i σ w → g x σ w.H fun σ2 H2 => tb ⟨KIs (Inv (i + 1)), rt, nx, KIs (Inv (i + 1))⟩ σ2 H2)
    (hd : ∀ σ w, Inv xs.length σ w → nx σ w.H) : KFor g tb ⟨nx, rt, bk, ct⟩ σ (Itt K a) w.H :=
  for_tup (xs := xs) (fun i => KIs (Inv i)) (k_is h0) (fun i σ H hi ⟨w, e, p⟩ => by subst e; exact sqT (hk i σ w p)) (fun i x σ H hx ⟨w, e, p⟩ => by subst e; exact hs i x σ w hx p) fun σ H ⟨w, e, p⟩ => by subst e; exact hd σ w p
def KLs (K : PySem.W.Frag) (R : It → Hp → Prop) : VK := fun x H1 => ∃ a, x = .ref a ∧ (∃ xs, SqL K H1 a xs) ∧ R (Itl K a) H1
theorem q_lst {e : Xp} {R : It → Hp → Prop} (h : e.den v W σ H (KLs v.K R)) : Sq.den v (.lst e) W σ H R := h
theorem k_ls {K : PySem.W.Frag} {w : Wd} {a : Addr} {xs : List V} {R : It → Hp → Prop} (e : w.H a = some (.lst xs)) (h : R (Itl K a) w.H) : KLs K R (.ref a) w.H := ⟨a, rfl, ⟨xs, sqL e⟩, h⟩
theorem k_lsD {K : PySem.W.Frag} {w : Wd} {x : V} {ds : List PyData} {R : It → Hp → Prop} (hx : Dv w x (.list ds)) (h : ∀ a xs, x = .ref a → w.S a → w.H a = some (.lst xs) → Dvs w xs ds → R (Itl K a) w.H) : KLs K R x w.H := by
  obtain ⟨a, xs, rfl, s, e, r⟩ := hx.of_lst
  exact k_ls e (h a xs rfl s e r)
def KLt (K : PySem.W.Frag) (R : It → Hp → Prop) : VK := fun x H1 => ∃ a, x = .ref a ∧ (∃ xs, SqT K H1 a xs) ∧ R (Itt K a) H1
theorem q_tup {e : Xp} {R : It → Hp → Prop} (h : e.den v W σ H (KLt v.K R)) : Sq.den v (.tup e) W σ H R := h
theorem k_ltD {K : PySem.W.Frag} {w : Wd} {x : V} {ds : List PyData} {R : It → Hp → Prop} (hx : Dv w x (.tuple ds)) (h : ∀ a xs, x = .ref a → w.S a → w.H a = some (.tup xs) → Dvs w xs ds → R (Itt K a) w.H) : KLt K R x w.H := by
  obtain ⟨a, xs, rfl, s, e, r⟩ := hx.of_tup
  exact ⟨a, rfl, ⟨xs, sqT e⟩, h a xs rfl s e r⟩
/-- what is sealed stays -/
theorem Ex.keepL {T : List Addr} {w w' : Wd} {a : Addr} {o : HO} (e : Ex T w w') (s : w.S a) (h : w.H a = some o) : w'.H a = some o := e.kp a o h fun z => e.op a z s
/-! while -/
def KWb (P : St → Wd → Prop) (nx : St → Hp → Prop) (tb : Ends → St → Hp → Prop) (rt : VK) (σ : St) : Bool → Hp → Prop := fun b H1 => if b = true then tb ⟨KIs P, rt, nx, KIs P⟩ σ H1 else nx σ H1
/-! comprehensions -/
def KLc (g : TG) (tt : TT) (te : TE) (vs : List Nat) (σ : St) (Q : VK) (J : It) (H1 : Hp) : Prop := ∀ D, H1 D = none → ∃ W : Nat → Nat → Hp → Prop, (∃ m, W 0 m (upd H1 D (.lst []))) ∧ ∀ i m H, W i m H →
  (J.stop i H ∧ Q (.ref D) H) ∨ (J.go i H ∧ ∃ Nx : Hp → Prop, (∀ H', Nx H' → ∃ m', m' < m ∧ W (i + 1) m' H') ∧ ∀ x H', J.yld i H x H' → g x (wipe σ vs) H' fun σ2 H2 => wipe σ2 vs = wipe σ vs ∧ tt σ2 H2 fun b H3 =>
    if b = true then te σ2 H3 fun y H4 => ∃ acc, H4 D = some (.lst acc) ∧ acc.length < sizeLine ∧ Nx (upd H4 D (.lst (acc ++ [y]))) else Nx H3)
def noW : WX := fun _ _ _ _ => False
theorem e_lc {el : Xp} {tg : Tg} {it : Sq} {ifs : Tto} {own : List Nat} (h : it.den v W σ H (KLc (tg.den v noW) (ifs.den v noW) (el.den v noW) own σ Q)) : Xp.den v (.lc el tg it ifs own) W σ H Q := h
def KIw (P : Wd → Prop) : Hp → Prop := fun H => ∃ w, H = w.H ∧ P w
def KAp (D : Addr) (P : Wd → Prop) : VK := fun y H4 => ∃ acc, H4 D = some (.lst acc) ∧ acc.length < sizeLine ∧ KIw P (upd H4 D (.lst (acc ++ [y])))
theorem k_ap {D : Addr} {P : Wd → Prop} {w : Wd} {acc : List V} {y : V} (o : Op w D (.lst acc)) (hl : acc.length < sizeLine) (h : ∀ w', Ex [D] w w' → Op w' D (.lst (acc ++ [y])) → P w') : KAp D P y w.H :=
  ⟨acc, o.h, hl, w.put D _, rfl, h _ (ex_set o) (op_set o)⟩
def KLb (tt : TT) (te : TE) (vs : List Nat) (σ0 : St) (D : Addr) (P : Wd → Prop) : St → Hp → Prop := fun σ2 H2 => wipe σ2 vs = wipe σ0 vs ∧ tt σ2 H2 fun b H3 => if b = true then te σ2 H3 (KAp D P) else KIw P H3
theorem k_lb0 {te : TE} {vs : List Nat} {σ0 : St} {D : Addr} {P : Wd → Prop} (hw : wipe σ vs = wipe σ0 vs) (h : te σ H (KAp D P)) : KLb (Tto.den v .no W) te vs σ0 D P σ H := ⟨hw, h⟩
def KLd (te : TE) (D : Addr) (P : Wd → Prop) (σ : St) : Bool → Hp → Prop := fun b H3 => if b = true then te σ H3 (KAp D P) else KIw P H3
theorem k_lb1 {t : Tt} {te : TE} {vs : List Nat} {σ0 : St} {D : Addr} {P : Wd → Prop} (hw : wipe σ vs = wipe σ0 vs) (h : t.den v W σ H (KLd te D P σ)) : KLb (Tto.den v (.so t) W) te vs σ0 D P σ H := ⟨hw, h⟩
theorem k_ld {te : TE} {D : Addr} {P : Wd → Prop} {w : Wd} {b : Bool} (ht : b = true → te σ w.H (KAp D P)) (hf : b = false → P w) : KLd te D P σ b w.H := by
  cases b with
  | true => exact ht rfl
  | false => exact ⟨w, rfl, hf rfl⟩
theorem k_lc_rng {lo : Int} {m : Nat} {g : TG} {tt : TT} {te : TE} {vs : List Nat} {w : Wd} (h : ∀ w1 D, Ex [] w w1 → w.H D = none → Op w1 D (.lst []) → ∃ Inv : Nat → Wd → Prop, Inv 0 w1 ∧
    (∀ i w', i < m → Inv i w' → g (.int (lo + i)) (wipe σ vs) w'.H (KLb tt te vs σ D (Inv (i + 1)))) ∧ ∀ w', Inv m w' → Q (.ref D) w'.H) : KLc g tt te vs σ Q (Itr lo m) w.H := fun D hD => by
  obtain ⟨Inv, h0, hs, hd⟩ := h (w.put D (.lst [])) D (ex_new hD) hD (op_new hD)
  exact lc_range (Qd := Q (.ref D)) (fun i => KIw (Inv i)) ⟨_, rfl, h0⟩ (fun i H hi ⟨w', e, p⟩ => by subst e; exact hs i w' hi p) fun H ⟨w', e, p⟩ => by subst e; exact hd w' p
theorem k_lc_lst {K : PySem.W.Frag} {a : Addr} {xs : List V} {g : TG} {tt : TT} {te : TE} {vs : List Nat} {w : Wd} (h : ∀ w1 D, Ex [] w w1 → w.H D = none → Op w1 D (.lst []) → ∃ Inv : Nat → Wd → Prop, Inv 0 w1 ∧ (∀ i w', Inv i w' → SqL K w'.H a xs) ∧
    (∀ i x w', xs[i]? = some x → Inv i w' → g x (wipe σ vs) w'.H (KLb tt te vs σ D (Inv (i + 1)))) ∧ ∀ w', Inv xs.length w' → Q (.ref D) w'.H) : KLc g tt te vs σ Q (Itl K a) w.H := fun D hD => by
  obtain ⟨Inv, h0, hk, hs, hd⟩ := h (w.put D (.lst [])) D (ex_new hD) hD (op_new hD)
  exact lc_list (xs := xs) (Qd := Q (.ref D)) (fun i => KIw (Inv i)) ⟨_, rfl, h0⟩ (fun i H hi ⟨w', e, p⟩ => by subst e; exact hk i w' p) (fun i x H hx ⟨w', e, p⟩ => by subst e; exact hs i x w' hx p) fun H ⟨w', e, p⟩ => by subst e; exact hd w' p
end
end DI

/-! DI, part 13: more of the readings' rules. -/
namespace DI
open L2
open PySem.Spec
open PyProof.Rows hiding St
open PySem

section
variable {v : Ev} {D : Nat → Df} {n : Nat} {W : WX} {σ : St} {H : Hp} {Q : VK} {nx bk ct : St → Hp → Prop} {rt : VK} {K : PySem.W.Frag} {w : Wd}
theorem get_of {α : Type} {xs : List α} {i : Nat} (h : i < xs.length) : ∃ a, xs[i]? = some a := ⟨xs[i], by simp [h]⟩
theorem getD_some {α : Type} {xs : List α} {i : Nat} {z : α} (h : i < xs.length) : xs[i]? = some (xs.getD i z) := by
  rw [List.getD_eq_getElem?_getD, List.getElem?_eq_getElem h]; rfl
/-- an int out of a list, by its bounds -/
theorem i_G {x : V} {xs : List Int} {i : Int} (hx : Dv w x (.list (xs.map PyData.int))) (h0 : 0 ≤ i) (h1 : i < xs.length) (h : Q (.int (xs.getD i.toNat 0)) w.H) : KI2 K x Q (.int i) w.H :=
  i_Li hx h0 (by rw [List.getElem?_map, getD_some (z := 0) (by omega)]; rfl) h
theorem i_GT {x : V} {xs : List Int} {i : Int} (hx : Dv w x (.tuple (xs.map PyData.int))) (h0 : 0 ≤ i) (h1 : i < xs.length) (h : Q (.int (xs.getD i.toNat 0)) w.H) : KI2 K x Q (.int i) w.H :=
  i_Ti hx h0 (by rw [List.getElem?_map, getD_some (z := 0) (by omega)]; rfl) h
theorem i_M {α : Type} {g : α → PyData} {z : α} {x : V} {xs : List α} {i : Int} (hx : Dv w x (.list (xs.map g))) (h0 : 0 ≤ i) (h1 : i < xs.length) (h : ∀ y, Dv w y (g (xs.getD i.toNat z)) → Q y w.H) : KI2 K x Q (.int i) w.H :=
  i_L hx h0 (by rw [List.getElem?_map, getD_some (z := z) (by omega)]; rfl) h
theorem i_OG {a : Addr} {xs : List Int} {i : Int} (e : w.H a = some (.lst (xs.map V.int))) (h0 : 0 ≤ i) (h1 : i < xs.length) (h : Q (.int (xs.getD i.toNat 0)) w.H) : KI2 K (.ref a) Q (.int i) w.H :=
  i_O e h0 (by rw [List.getElem?_map, getD_some (z := 0) (by omega)]; rfl) h
theorem i_OM {α : Type} {g : α → PyData} {z : α} {a : Addr} {vs : List V} {xs : List α} {i : Int} (e : w.H a = some (.lst vs)) (r : Dvs w vs (xs.map g)) (h0 : 0 ≤ i) (h1 : i < xs.length) (h : ∀ y, Dv w y (g (xs.getD i.toNat z)) → Q y w.H) : KI2 K (.ref a) Q (.int i) w.H := by
  obtain ⟨y, hy, q⟩ := r.get (i := i.toNat) (d := g (xs.getD i.toNat z)) (by rw [List.getElem?_map, getD_some (z := z) (by omega)]; rfl)
  exact i_O e h0 hy (h y q)
/-- a pair of ints -/
theorem i_T0 {x : V} {i j : Int} (hx : Dv w x (.tuple [.int i, .int j])) (h : Q (.int i) w.H) : KI2 K x Q (.int 0) w.H := i_Ti hx (by decide) rfl h
theorem i_T1 {x : V} {i j : Int} (hx : Dv w x (.tuple [.int i, .int j])) (h : Q (.int j) w.H) : KI2 K x Q (.int 1) w.H := i_Ti hx (by decide) rfl h
theorem g_ii {x : V} {i j : Int} {g1 g2 : Tg} {P : St → Hp → Prop} (hx : Dv w x (.tuple [.int i, .int j])) (h : KTs v (.cons g1 (.cons g2 .nil)) W P [.int i, .int j] σ w.H) : Tg.den v (.tup (.cons g1 (.cons g2 .nil))) W x σ w.H P :=
  g_tup hx rfl fun xs r => by
    cases r with
    | cons a r => cases a; cases r with
      | cons b r => cases b; cases r; exact h
theorem f_isiI {i : Int} {b : String} {r : Bool} (e : kitB "int" b = some r) (h : Q (.bl r) H) : KBf K .isi Q [.int i, .ty b] H := f_isi (.ty _) (.base (.int i)) (kit_ty e) h
theorem f_isiB {i : Bool} {b : String} {r : Bool} (e : kitB "bool" b = some r) (h : Q (.bl r) H) : KBf K .isi Q [.bl i, .ty b] H := f_isi (.ty _) (.base (.bl i)) (kit_ty e) h
theorem f_isiS {i : Str} {b : String} {r : Bool} (e : kitB "str" b = some r) (h : Q (.bl r) H) : KBf K .isi Q [.str i, .ty b] H := f_isi (.ty _) (.base (.str i)) (kit_ty e) h
theorem f_isiO {a : Addr} {xs : List V} {b : String} {r : Bool} (o : w.H a = some (.lst xs)) (e : kitB "list" b = some r) (h : Q (.bl r) w.H) : KBf K .isi Q [.ref a, .ty b] w.H := f_isi (.ty _) (.base (.lst o)) (kit_ty e) h
theorem f_isiL {x : V} {ds : List PyData} {b : String} {r : Bool} (hx : Dv w x (.list ds)) (e : kitB "list" b = some r) (h : Q (.bl r) w.H) : KBf K .isi Q [x, .ty b] w.H := by
  obtain ⟨a, xs, rfl, s, o, _⟩ := hx.of_lst
  exact f_isiO o e h
theorem f_isiD {x : V} {m : List (PyData × PyData)} {b : String} {r : Bool} (hx : Dv w x (.dict m)) (e : kitB "dict" b = some r) (h : Q (.bl r) w.H) : KBf K .isi Q [x, .ty b] w.H := by
  obtain ⟨a, kvs, rfl, s, o⟩ := hx.of_dic
  exact f_isi (.ty _) (.base (.dK o)) (kit_ty e) h
theorem f_isiT {x : V} {ds : List PyData} {b : String} {r : Bool} (hx : Dv w x (.tuple ds)) (e : kitB "tuple" b = some r) (h : Q (.bl r) w.H) : KBf K .isi Q [x, .ty b] w.H := by
  obtain ⟨a, xs, rfl, s, o, _⟩ := hx.of_tup
  exact f_isi (.ty _) (.base (.tup o)) (kit_ty e) h
/-- x[lo:hi] of a list, any -/
theorem sl_L {a : Addr} {xs : List V} {lo hi : Option Int} (h : SqL K H a xs) (q : KNew (.lst (cutV xs lo hi)) Q H) : rSlAny K (.ref a) lo hi H Q := RSlR.lst h q

theorem k_for_n {m : Nat} {g : TG} {tb : TS} (k : Nat) (hk : m = k) (Inv : Nat → St → Wd → Prop) (h0 : Inv 0 σ w)
    (hs : ∀ i σ w, i < k → Inv i σ w → g (.int i) σ w.H fun σ2 H2 => tb ⟨KIs (Inv (i + 1)), rt, nx, KIs (Inv (i + 1))⟩ σ2 H2)
    (hd : ∀ σ w, Inv k σ w → nx σ w.H) : KFor g tb ⟨nx, rt, bk, ct⟩ σ (Itr 0 m) w.H := by
  subst hk
  exact k_for_rng Inv h0 (fun i σ w hi p => by have := hs i σ w hi p; rwa [← Int.zero_add (i : Int)] at this) hd
theorem k_lc_n {m : Nat} {g : TG} {tt : TT} {te : TE} {vs : List Nat} (k : Nat) (hk : m = k) (h : ∀ w1 D, Ex [] w w1 → w.H D = none → Op w1 D (.lst []) → ∃ Inv : Nat → Wd → Prop, Inv 0 w1 ∧
    (∀ i w', i < k → Inv i w' → g (.int i) (wipe σ vs) w'.H (KLb tt te vs σ D (Inv (i + 1)))) ∧ ∀ w', Inv k w' → Q (.ref D) w'.H) : KLc g tt te vs σ Q (Itr 0 m) w.H := by
  subst hk
  refine k_lc_rng fun w1 D e hd o => ?_
  obtain ⟨Inv, h0, hs, h1⟩ := h w1 D e hd o
  exact ⟨Inv, h0, fun i w' hi p => by have := hs i w' hi p; rwa [← Int.zero_add (i : Int)] at this, h1⟩
theorem k_m1 {m : Bm} {es : Xps} {a : Addr} {xs : List V} (o : w.H a = some (.lst xs)) (hm : m.ty = "list") (h : es.den v W σ w.H (KM2 v.K m (.ref a) Q)) : KM1 v m es W σ Q (.ref a) w.H := by
  refine ⟨?_, h⟩
  rw [hm]
  exact .inl ⟨rfl, xs, sqL o⟩
/-! ### the walk of a list of data -/
theorem k_for_D {x : V} {ds : List PyData} {g : TG} {tb : TS} (hx : Dv w x (.list ds)) (Inv : Nat → St → Wd → Prop) (hk : ∀ i σ w', Inv i σ w' → ∃ T, Ex T w w') (h0 : Inv 0 σ w)
    (hs : ∀ i d y σ w', ds[i]? = some d → Dv w' y d → Inv i σ w' → g y σ w'.H fun σ2 H2 => tb ⟨KIs (Inv (i + 1)), rt, nx, KIs (Inv (i + 1))⟩ σ2 H2)
    (hd : ∀ σ w', Inv ds.length σ w' → nx σ w'.H) : KLs K (KFor g tb ⟨nx, rt, bk, ct⟩ σ) x w.H := by
  refine k_lsD hx fun a xs e s ha r => ?_
  refine k_for_lst (xs := xs) Inv (fun i σ w' p => ?_) h0 (fun i y σ w' hy p => ?_) fun σ w' p => hd σ w' (by rw [← r.length]; exact p)
  · obtain ⟨T, ex⟩ := hk i σ w' p
    exact ex.keepL s ha
  · obtain ⟨T, ex⟩ := hk i σ w' p
    obtain ⟨d, hd, hv⟩ := r.get' hy
    exact hs i d y σ w' hd (hv.ex ex) p
theorem k_for_DT {x : V} {ds : List PyData} {g : TG} {tb : TS} (hx : Dv w x (.tuple ds)) (Inv : Nat → St → Wd → Prop) (hk : ∀ i σ w', Inv i σ w' → ∃ T, Ex T w w') (h0 : Inv 0 σ w)
    (hs : ∀ i d y σ w', ds[i]? = some d → Dv w' y d → Inv i σ w' → g y σ w'.H fun σ2 H2 => tb ⟨KIs (Inv (i + 1)), rt, nx, KIs (Inv (i + 1))⟩ σ2 H2)
    (hd : ∀ σ w', Inv ds.length σ w' → nx σ w'.H) : KLt K (KFor g tb ⟨nx, rt, bk, ct⟩ σ) x w.H := by
  refine k_ltD hx fun a xs e s ha r => ?_
  refine k_for_tup (xs := xs) Inv (fun i σ w' p => ?_) h0 (fun i y σ w' hy p => ?_) fun σ w' p => hd σ w' (by rw [← r.length]; exact p)
  · obtain ⟨T, ex⟩ := hk i σ w' p
    exact ex.keepL s ha
  · obtain ⟨T, ex⟩ := hk i σ w' p
    obtain ⟨d, hd, hv⟩ := r.get' hy
    exact hs i d y σ w' hd (hv.ex ex) p
end

/-! ### the drawing of numbers -/
/-- the state of the numbers that a law draws -/
structure Gen (w : Wd) (s c : Addr) : Prop where
  g : ∃ (i : Int) (cells : List Int), Op w s (.lst [.int i, .ref c]) ∧ Op w c (.lst (cells.map V.int)) ∧ 0 ≤ i ∧ 0 < cells.length ∧ ∀ x ∈ cells, 0 ≤ x
  ne : s ≠ c
theorem Gen.ex {w w' : Wd} {s c : Addr} {T : List Addr} (e : Ex T w w') (g : Gen w s c) (hs : s ∉ T) (hc : c ∉ T) : Gen w' s c := by
  obtain ⟨i, cs, h1, h2, h3⟩ := g.g
  exact ⟨⟨i, cs, h1.ex e hs, h2.ex e hc, h3⟩, g.ne⟩
theorem Gen.ex0 {w w' : Wd} {s c : Addr} (e : Ex [] w w') (g : Gen w s c) : Gen w' s c := g.ex e (by simp) (by simp)
theorem Gen.fs {w : Wd} {s c p : Addr} (g : Gen w s c) (h : w.H p = none) : s ≠ p := by obtain ⟨i, cs, h1, h2, h3⟩ := g.g; exact h1.ne h
theorem Gen.fc {w : Wd} {s c p : Addr} (g : Gen w s c) (h : w.H p = none) : c ≠ p := by obtain ⟨i, cs, h1, h2, h3⟩ := g.g; exact h2.ne h
theorem Gen.op {w : Wd} {s c : Addr} (g : Gen w s c) : ∀ b ∈ [s, c], ¬ w.S b := by
  obtain ⟨i, cs, h1, h2, h3⟩ := g.g
  intro b hb
  simp only [List.mem_cons, List.not_mem_nil, or_false] at hb
  rcases hb with rfl | rfl
  · exact h1.n
  · exact h2.n
/-- frames of the drawing -/
theorem Ex.gen {w w' : Wd} {s c : Addr} (e : Ex [] w w') (g : Gen w s c) : Ex [s, c] w w' := e.more (by simp) g.op
theorem Ex.t0 {T : List Addr} {w w1 w2 : Wd} (e : Ex T w w1) (f : Ex [] w1 w2) : Ex T w w2 := e.trans f (by simp)
theorem Ex.tt {T : List Addr} {w w1 w2 : Wd} (e : Ex T w w1) (f : Ex T w1 w2) : Ex T w w2 := e.trans f fun b h => .inl h
theorem Ex.tf {T : List Addr} {w w1 w2 : Wd} {p : Addr} (e : Ex T w w1) (f : Ex [p] w1 w2) (h : w.H p = none) : Ex T w w2 := e.trans f fun b hb => by
  simp only [List.mem_singleton] at hb; subst hb; exact .inr h
theorem Ex.tm {T : List Addr} {w w1 w2 : Wd} {p : Addr} (e : Ex T w w1) (f : Ex [p] w1 w2) (h : p ∈ T) : Ex T w w2 := e.trans f fun b hb => by
  simp only [List.mem_singleton] at hb; subst hb; exact .inl h
/-- the world of a heap of which nothing is sealed -/
def Wd.of (H : Hp) : Wd := ⟨H, fun _ => False, fun _ h => h.elim⟩
theorem cutV_ints {ns : List Int} {lo hi : Option Int} : ∃ ms : List Int, cutV (ns.map V.int) lo hi = ms.map V.int ∧ ms.length ≤ ns.length := by
  refine ⟨((ns.drop (HT.sIx (ns.map V.int).length 0 lo)).take (HT.sIx (ns.map V.int).length (ns.map V.int).length hi - HT.sIx (ns.map V.int).length 0 lo)), ?_, ?_⟩
  · unfold cutV; rw [List.map_take, List.map_drop]
  · rw [List.length_take, List.length_drop]; omega
end DI

/-! DI, part 14: sizes of data; repr and == of it. -/
namespace DI
open L2
open PySem.Spec
open PyProof.Rows hiding St
open PySem

/-- data that may be shown and compared: its depth, the signs of its text -/
structure Sz (p n : Nat) (d : PyData) : Prop where
  cl : d.canLay0 = true
  sh : d.showable = true
  dp : d.depth ≤ p
  ln : d.shown.length ≤ n
theorem Sz.mono {p n p' n' : Nat} {d : PyData} (h : Sz p n d) (hp : p ≤ p') (hn : n ≤ n') : Sz p' n' d := ⟨h.cl, h.sh, Nat.le_trans h.dp hp, Nat.le_trans h.ln hn⟩
theorem Sz.int {i : Int} (h : i.natAbs < 10 ^ 18) : Sz 0 19 (.int i) := by
  refine ⟨by simp [PyData.canLay0], ?_, Nat.le_refl _, ?_⟩
  · simp only [PyData.showable, decide_eq_true_eq]
    have : i.natAbs < 2 ^ 60 := Nat.lt_of_lt_of_le h (by decide)
    rcases Nat.eq_zero_or_pos i.natAbs with e | e
    · rw [e]; decide
    · exact Nat.lt_of_lt_of_le ((Nat.log2_lt (by omega)).mpr this) (by decide)
  · show (Str.ofString (toString i)).length ≤ 19
    rw [PySem.ofString_length]
    exact int_text_length_le10 (by decide) h
theorem Sz.bool (b : Bool) : Sz 0 5 (.bool b) := ⟨by simp [PyData.canLay0], by simp [PyData.showable], Nat.le_refl _, by cases b <;> decide⟩
theorem Sz.none : Sz 0 4 .none := ⟨by simp [PyData.canLay0], by simp [PyData.showable], Nat.le_refl _, by decide⟩
theorem textFrom_le : ∀ (ts : List Str) (k : Nat) (acc : Str), (textFrom k acc ts).length ≤ acc.length + piled ts
  | [], k, acc => by show acc.length ≤ acc.length + _; omega
  | t :: r, k, acc => by
    have h := textFrom_le r (k + 1) (acc ++ (if k > 0 then ", " else "" : String) ++ t)
    have e : (acc ++ (if k > 0 then ", " else "" : String) ++ t).length = acc.length + (if k > 0 then 2 else 0) + t.length := by
      rw [strLen_append, strLen_append]
      split <;> rfl
    rw [e] at h
    rw [piled_cons]
    show (textFrom (k + 1) (acc ++ (if k > 0 then ", " else "" : String) ++ t) r).length ≤ _
    have : (if k > 0 then 2 else 0) ≤ 2 := by split <;> omega
    omega
theorem listText_le (ts : List Str) : (listText ts).length ≤ piled ts + 2 := by
  unfold listText
  rw [strLen_append]
  have := textFrom_le ts 0 ("[" : String)
  have e1 : ((("[" : String) : Str)).length = 1 := rfl
  have e2 : ((("]" : String) : Str)).length = 1 := rfl
  rw [e1] at this
  rw [e2]
  omega
theorem tupleText_le (ts : List Str) : (tupleText ts).length ≤ piled ts + 3 := by
  unfold tupleText
  rw [strLen_append, strLen_append]
  have e1 : ((("(" : String) : Str)).length = 1 := rfl
  have e3 : (((if ts.length == 1 then ",)" else ")" : String) : Str)).length ≤ 2 := by split <;> decide
  rw [e1]
  have : (Str.join ", " ts).length ≤ piled ts := by
    by_cases h : ts = []
    · subst h; exact Nat.zero_le _
    · have := join_length_add ts h; omega
  omega
theorem piled_shown {n : Nat} : ∀ {ds : List PyData}, (∀ d ∈ ds, d.shown.length ≤ n) → piled (PyData.shownAll ds) ≤ ds.length * (n + 2)
  | [], _ => by simp [PyData.shownAll, piled]
  | d :: r, h => by
    have := piled_shown (ds := r) fun e he => h e (List.mem_cons_of_mem _ he)
    have h1 := h d (List.mem_cons_self ..)
    simp only [PyData.shownAll, piled_cons, List.length_cons]
    rw [Nat.add_mul]
    omega
theorem all_cl {p n : Nat} : ∀ {ds : List PyData}, (∀ d ∈ ds, Sz p n d) → PyData.canLayAll0 ds = true ∧ PyData.showableAll ds = true ∧ PyData.depthAll ds ≤ p
  | [], _ => ⟨by simp [PyData.canLayAll0], by simp [PyData.showableAll], by simp [PyData.depthAll]⟩
  | d :: r, h => by
    obtain ⟨h1, h2, h3⟩ := all_cl (ds := r) fun e he => h e (List.mem_cons_of_mem _ he)
    have z := h d (List.mem_cons_self ..)
    exact ⟨by simp [PyData.canLayAll0, z.cl, h1], by simp [PyData.showableAll, z.sh, h2], by simp only [PyData.depthAll]; have := z.dp; omega⟩
theorem Sz.list {p n m : Nat} {ds : List PyData} (h : ∀ d ∈ ds, Sz p n d) (hm : ds.length ≤ m) : Sz (p + 1) (m * (n + 2) + 2) (.list ds) := by
  obtain ⟨h1, h2, h3⟩ := all_cl h
  refine ⟨by simpa [PyData.canLay0] using h1, by simpa [PyData.showable] using h2, by simp only [PyData.depth]; omega, ?_⟩
  have a := listText_le (PyData.shownAll ds)
  have b := piled_shown (ds := ds) fun d hd => (h d hd).ln
  have c := Nat.mul_le_mul_right (n + 2) hm
  show (listText (PyData.shownAll ds)).length ≤ _
  omega
theorem Sz.tup {p n m : Nat} {ds : List PyData} (h : ∀ d ∈ ds, Sz p n d) (hm : ds.length ≤ m) : Sz (p + 1) (m * (n + 2) + 3) (.tuple ds) := by
  obtain ⟨h1, h2, h3⟩ := all_cl h
  refine ⟨by simpa [PyData.canLay0] using h1, by simpa [PyData.showable] using h2, by simp only [PyData.depth]; omega, ?_⟩
  have a := tupleText_le (PyData.shownAll ds)
  have b := piled_shown (ds := ds) fun d hd => (h d hd).ln
  have c := Nat.mul_le_mul_right (n + 2) hm
  show (tupleText (PyData.shownAll ds)).length ≤ _
  omega
theorem Sz.two {p n : Nat} {d e : PyData} (h : Sz p n d) (h' : Sz p n e) : Sz (p + 1) (2 * (n + 2) + 3) (.tuple [d, e]) := Sz.tup (m := 2) (by simp [h, h']) (by simp)
theorem Sz.ints {m : Nat} {ns : List Int} (h : ∀ i ∈ ns, i.natAbs < 10 ^ 18) (hm : ns.length ≤ m) : Sz 1 (m * 21 + 2) (.list (ns.map .int)) :=
  Sz.list (p := 0) (n := 19) (by simpa using fun i hi => Sz.int (h i hi)) (by simpa using hm)
theorem Sz.shaped {p n : Nat} {d : PyData} (h : Sz p n d) (hp : p ≤ 64) : SeqAt.shaped d = true := by
  unfold SeqAt.shaped
  rw [h.cl]
  simpa using Nat.le_trans h.dp hp
section
variable {K : PySem.W.Frag} {H : Hp} {Q : VK} {w : Wd} {P : Bool → Hp → Prop}
theorem f_reprS {p n : Nat} {x : V} {d : PyData} (hd : Dq K H x d) (z : Sz p n d) (hp : p < 63) (hn : n ≤ 16777216) (h : Q (.str d.shown) H) : KBf K .repr Q [x] H :=
  f_repr hd z.sh (Nat.lt_of_le_of_lt z.dp hp) (Nat.le_trans z.ln (by rw [sizeLine_eq]; exact hn)) h
/-- the same data are equal -/
theorem c_neS {p n : Nat} {x y : V} {d : PyData} (hd : Dq K w.H x d) (he : Dq K w.H y d) (z : Sz p n d) (hp : p ≤ 64) (h : P false w.H) : KC2 K .NotEq x P y w.H :=
  c_neD hd he (z.shaped hp) (z.shaped hp) (by rw [SeqAt.eqv_refl d z.cl]; exact h)
theorem c_eqS {p n : Nat} {x y : V} {d : PyData} (hd : Dq K w.H x d) (he : Dq K w.H y d) (z : Sz p n d) (hp : p ≤ 64) (h : P true w.H) : KC2 K .Eq x P y w.H :=
  c_eqD hd he (z.shaped hp) (z.shaped hp) (by rw [SeqAt.eqv_refl d z.cl]; exact h)
end
end DI

/-! DI, part 15: objects with fields; dicts with pairs as keys. -/
namespace DI
open L2
open PySem.Spec
open PyProof.Rows hiding St
open PySem

section
variable {v : Ev} {D : Nat → Df} {n : Nat} {W : WX} {σ : St} {H : Hp} {Q : VK} {nx bk ct : St → Hp → Prop} {rt : VK} {K : PySem.W.Frag} {w : Wd}
/-- a field, read -/
def KFl (C : Addr) (f : Str) (Q : VK) : VK := fun x H1 => ∃ a dx fs z, x = .ref a ∧ H1 a = some (.ins C dx fs) ∧ fs.lookup f = some z ∧ Q z H1
theorem x_fld {C : Nat} {o : Xp} {f : Str} (h : o.den v W σ H (KFl (v.cls C) f Q)) : Xp.den v (.fld C o f) W σ H Q := h
theorem k_fl {C a dx : Addr} {f : Str} {fs : List (Str × V)} {z : V} (o : Op w a (.ins C dx fs)) (hl : fs.lookup f = some z) (h : Q z w.H) : KFl C f Q (.ref a) w.H := ⟨a, dx, fs, z, rfl, o.h, hl, h⟩
/-- a field, set -/
def KFs (v : Ev) (C : Nat) (o : Xp) (f : Str) (W : WX) (σ : St) (P : St → Hp → Prop) : VK := fun y H1 => o.den v W σ H1 fun x H2 => ∃ a dx fs, x = .ref a ∧ H2 a = some (.ins (v.cls C) dx fs) ∧ fs.length < 1000 ∧ P σ (upd H2 a (.ins (v.cls C) dx (putF f y fs)))
def KFt (C : Addr) (f : Str) (y : V) (σ : St) (P : St → Hp → Prop) : VK := fun x H2 => ∃ a dx fs, x = .ref a ∧ H2 a = some (.ins C dx fs) ∧ fs.length < 1000 ∧ P σ (upd H2 a (.ins C dx (putF f y fs)))
theorem r_fld {C : Nat} {o e : Xp} {f : Str} (h : e.den v W σ H (KFs v C o f W σ nx)) : Sm.den v (.fld C o f e) W ⟨nx, rt, bk, ct⟩ σ H := h
theorem k_fs {C : Nat} {o : Xp} {f : Str} {P : St → Hp → Prop} {y : V} (h : o.den v W σ H (KFt (v.cls C) f y σ P)) : KFs v C o f W σ P y H := h
theorem k_ft {C a dx : Addr} {f : Str} {fs gs : List (Str × V)} {y : V} {P : St → Hp → Prop} (o : Op w a (.ins C dx fs)) (hl : fs.length < 1000) (hg : putF f y fs = gs) (h : ∀ w', Ex [a] w w' → Op w' a (.ins C dx gs) → P σ w'.H) : KFt C f y σ P (.ref a) w.H := by
  subst hg
  exact ⟨a, dx, fs, rfl, o.h, hl, h (w.put a _) (ex_set o) (op_set o)⟩
/-- a method of an own class -/
def KMe (v : Ev) (m C : Nat) (nm : Str) (es : Xps) (W : WX) (σ : St) (Q : VK) : VK := fun x H1 => ∃ a dx fs, x = .ref a ∧ H1 a = some (.ins (v.cls C) dx fs) ∧ fs.lookup nm = none ∧
  es.den v W σ H1 fun vs H2 => v.sp m (.ref a :: vs) H2 Q fun c d H3 => W c d σ H3
def KMc (v : Ev) (m : Nat) (a : Addr) (W : WX) (σ : St) (Q : VK) : List V → Hp → Prop := fun vs H2 => v.sp m (.ref a :: vs) H2 Q fun c d H3 => W c d σ H3
theorem e_meth {m C : Nat} {nm : Str} {o : Xp} {es : Xps} (h : o.den v W σ H (KMe v m C nm es W σ Q)) : Xp.den v (.meth m C nm o es) W σ H Q := h
theorem k_me {m C : Nat} {nm : Str} {es : Xps} {a dx : Addr} {fs : List (Str × V)} (o : Op w a (.ins (v.cls C) dx fs)) (hn : fs.lookup nm = none) (h : es.den v W σ w.H (KMc v m a W σ Q)) : KMe v m C nm es W σ Q (.ref a) w.H := ⟨a, dx, fs, rfl, o.h, hn, h⟩
theorem k_mc {m : Nat} {a : Addr} {vs : List V} (h : spOf v D n m (.ref a :: vs) H Q fun c d H2 => W c d σ H2) : KMc (evAt v D n) m a W σ Q vs H := h
/-- an object of an own class is made -/
def KMk (v : Ev) (C f : Nat) (W : WX) (σ : St) (Q : VK) : List V → Hp → Prop := fun vs H1 => ∀ x dx, H1 x = none → H1 dx = none → dx ≠ x →
  v.sp f (.ref x :: vs) (upd (upd H1 dx (.own x)) x (.ins (v.cls C) dx [])) (fun u H2 => u = .non ∧ Q (.ref x) H2) fun c d H2 => W c d σ H2
theorem e_mk {C f : Nat} {es : Xps} (h : es.den v W σ H (KMk v C f W σ Q)) : Xp.den v (.mk C f es) W σ H Q := h
theorem k_mk {C f : Nat} {vs : List V} (h : ∀ w' x dx, Ex [] w w' → w.H x = none → Op w' x (.ins (v.cls C) dx []) → spOf v D n f (.ref x :: vs) w'.H (fun u H2 => u = .non ∧ Q (.ref x) H2) fun c d H2 => W c d σ H2) : KMk (evAt v D n) C f W σ Q vs w.H := fun x dx hx hd hne => by
  have e1 := ex_new (o := .own x) hd
  have hx1 : (w.put dx (.own x)).H x = none := by
    show upd w.H dx (.own x) x = none
    rw [upd_ne (Ne.symm hne)]; exact hx
  have e2 := ex_new (o := .ins (v.cls C) dx []) hx1
  exact h ((w.put dx (.own x)).put x (.ins (v.cls C) dx [])) x dx (e1.t0 e2) hx (op_new hx1)
theorem e_gI {i : Nat} {z : V} (hg : v.gv i = z) (h : Q z H) : Xp.den (evAt v D n) (.g i) W σ H Q := by
  show Q (v.gv i) H
  rw [hg]; exact h
/-! dicts with pairs as keys -/
theorem c_in_dT {a b : Addr} {P : Bool → Hp → Prop} {kvs : List (List Key × V)} {k : List Key} (o : w.H a = some (.dT kvs)) (hy : w.H b = some (.tup (k.map kV))) (h : P (valV kvs k).isSome w.H) : KC2 K .In (.ref b) P (.ref a) w.H := RIn.dict (DGet.t o hy) h
theorem i_dT {a b : Addr} {kvs : List (List Key × V)} {k : List Key} {z : V} (o : w.H a = some (.dT kvs)) (hy : w.H b = some (.tup (k.map kV))) (hz : valV kvs k = some z) (h : Q z w.H) : KI2 K (.ref a) Q (.ref b) w.H :=
  RIxR.dict (by have := DGet.t o hy; rwa [hz] at this) h
/-- a pair of ints as a key -/
abbrev pk (p : Int × Int) : List Key := [.inl p.1, .inl p.2]
abbrev dp (p : Int × Int) : PyData := .tuple [.int p.1, .int p.2]
theorem Dv.pair {x : V} {i j : Int} (h : Dv w x (.tuple [.int i, .int j])) : ∃ b, x = .ref b ∧ w.S b ∧ w.H b = some (.tup [.int i, .int j]) := by
  obtain ⟨b, xs, e, s, hb, r⟩ := h.of_tup
  cases r with
  | cons a r => cases a; cases r with
    | cons c r => cases c; cases r; exact ⟨b, e, s, hb⟩
theorem c_in_pair {a : Addr} {x : V} {P : Bool → Hp → Prop} {kvs : List (List Key × V)} {i j : Int} (hx : Dv w x (.tuple [.int i, .int j])) (o : w.H a = some (.dT kvs)) (h : P (valV kvs (pk (i, j))).isSome w.H) : KC2 K .In x P (.ref a) w.H := by
  obtain ⟨b, rfl, s, hb⟩ := hx.pair
  exact c_in_dT (k := pk (i, j)) o hb h
theorem i_pair {a : Addr} {x : V} {kvs : List (List Key × V)} {i j : Int} {z : V} (hx : Dv w x (.tuple [.int i, .int j])) (o : w.H a = some (.dT kvs)) (hz : valV kvs (pk (i, j)) = some z) (h : Q z w.H) : KI2 K (.ref a) Q x w.H := by
  obtain ⟨b, rfl, s, hb⟩ := hx.pair
  exact i_dT (k := pk (i, j)) o hb hz h
theorem k_set_pair {a : Addr} {x y : V} {kvs : List (List Key × V)} {i j : Int} {P : St → Hp → Prop} (hx : Dv w x (.tuple [.int i, .int j])) (o : Op w a (.dT kvs)) (hl : kvs.length < sizeLine) (h : ∀ w', Ex [a] w w' → Op w' a (.dT (putK kvs (pk (i, j)) y)) → P σ w'.H) : KSet P (.ref a) y σ x w.H := by
  obtain ⟨b, rfl, s, hb⟩ := hx.pair
  exact k_set_dT (k := pk (i, j)) o hb hl h
/-! name, name = value, value -/
def KPr (i j : Nat) (P : St → Hp → Prop) (σ : St) : List V → Hp → Prop := fun vs H1 => ∃ v w, vs = [v, w] ∧ P ((σ.set i (some v)).set j (some w)) H1
theorem r_par {i j : Nat} {a b : Xp} (h : Xps.den v (.cons a (.cons b .nil)) W σ H (KPr i j nx σ)) : Sm.den v (.par i j a b) W ⟨nx, rt, bk, ct⟩ σ H := h
theorem k_pr {i j : Nat} {P : St → Hp → Prop} {x y : V} (h : P ((σ.set i (some x)).set j (some y)) H) : KPr i j P σ [x, y] H := ⟨x, y, rfl, h⟩
def KPr3 (i j l : Nat) (P : St → Hp → Prop) (σ : St) : List V → Hp → Prop := fun vs H1 => ∃ u v w, vs = [u, v, w] ∧ P (((σ.set i (some u)).set j (some v)).set l (some w)) H1
theorem r_par3 {i j l : Nat} {a b c : Xp} (h : Xps.den v (.cons a (.cons b (.cons c .nil))) W σ H (KPr3 i j l nx σ)) : Sm.den v (.par3 i j l a b c) W ⟨nx, rt, bk, ct⟩ σ H := h
theorem k_pr3 {i j l : Nat} {P : St → Hp → Prop} {x y z : V} (h : P (((σ.set i (some x)).set j (some y)).set l (some z)) H) : KPr3 i j l P σ [x, y, z] H := ⟨x, y, z, rfl, h⟩
end
/-! truths that are known -/
section
variable {v : Ev} {W : WX} {σ : St} {H : Hp} {Q : VK} {P : Bool → Hp → Prop} {a b : Sms} {E : Ends} {t : Tt} {x y : Xp}
theorem kif_nt (h : b.den v W E σ H) : KIf v a b W E σ (!true) H := h
theorem kif_nf (h : a.den v W E σ H) : KIf v a b W E σ (!false) H := h
theorem kto_t (h : P true H) : KTO v t W σ P true H := h
theorem kto_f (h : t.den v W σ H P) : KTO v t W σ P false H := h
theorem kto_nt (h : t.den v W σ H P) : KTO v t W σ P (!true) H := h
theorem kto_nf (h : P true H) : KTO v t W σ P (!false) H := h
theorem kta_t (h : t.den v W σ H P) : KTA v t W σ P true H := h
theorem kta_f (h : P false H) : KTA v t W σ P false H := h
theorem kta_nt (h : P false H) : KTA v t W σ P (!true) H := h
theorem kta_nf (h : t.den v W σ H P) : KTA v t W σ P (!false) H := h
theorem ktn_t (h : P false H) : KTN P true H := h
theorem ktn_f (h : P true H) : KTN P false H := h
theorem kan_t (h : x.den v W σ H Q) : KAnd v x W σ Q (.bl true) H := h
theorem kan_f (h : Q (.bl false) H) : KAnd v x W σ Q (.bl false) H := h
theorem kor_t (h : Q (.bl true) H) : KOr v x W σ Q (.bl true) H := h
theorem kor_f (h : x.den v W σ H Q) : KOr v x W σ Q (.bl false) H := h
theorem kix_t (h : x.den v W σ H Q) : KIx v x y W Q σ true H := h
theorem kix_f (h : y.den v W σ H Q) : KIx v x y W Q σ false H := h
end
/-! ### lists of data, open -/
theorem Op.set_ne {w w' : Wd} {a b : Addr} {o : HO} (e : Ex [a] w w') (h : Op w b o) (n : b ≠ a) : Op w' b o := h.ex e (by simpa using n)
end DI

/-! DI, part 16: chains, slices, enumerate, zip, reversed; what is read from the written part. -/
namespace DI
open L2
open PySem.Spec
open PyProof.Rows hiding St
open PySem

section
variable {v : Ev} {D : Nat → Df} {n : Nat} {W : WX} {σ : St} {H : Hp} {Q : VK} {nx bk ct : St → Hp → Prop} {rt : VK} {K : PySem.W.Frag} {w w' : Wd}
theorem SqL.ex {T : List Addr} {a : Addr} {xs : List V} (e : Ex T w w') (h : SqL K w.H a xs) (n : a ∉ T) : SqL K w'.H a xs := by
  rcases h with (h | ⟨o, h⟩) | h
  · exact .inl (.inl (e.kp _ _ h n))
  · exact .inl (.inr ⟨o, e.kp _ _ h n⟩)
  · exact .inr h
theorem SqL.ex0 {a : Addr} {xs : List V} (e : Ex [] w w') (h : SqL K w.H a xs) : SqL K w'.H a xs := SqL.ex e h (by simp)
theorem SqT.ex {T : List Addr} {a : Addr} {xs : List V} (e : Ex T w w') (h : SqT K w.H a xs) (n : a ∉ T) : SqT K w'.H a xs := by
  rcases h with (h | ⟨o, h⟩) | h
  · exact .inl (.inl (e.kp _ _ h n))
  · exact .inl (.inr ⟨o, e.kp _ _ h n⟩)
  · exact .inr h
/-! chains -/
def KH1 (v : Ev) (o1 o2 : CmpOp) (b c : Xp) (W : WX) (σ : St) (P : Bool → Hp → Prop) : VK := fun x H1 => b.den v W σ H1 fun y H2 => rCmpB v.K o1 x y H2 fun k =>
  if k = true then c.den v W σ H2 fun z H3 => rCmpB v.K o2 y z H3 fun k' => P k' H3 else P false H2
def KH2 (v : Ev) (o1 o2 : CmpOp) (c : Xp) (W : WX) (σ : St) (P : Bool → Hp → Prop) (x : V) : VK := fun y H2 => rCmpB v.K o1 x y H2 fun k =>
  if k = true then c.den v W σ H2 fun z H3 => rCmpB v.K o2 y z H3 fun k' => P k' H3 else P false H2
def KH3 (v : Ev) (o2 : CmpOp) (c : Xp) (W : WX) (σ : St) (P : Bool → Hp → Prop) (y : V) : Bool → Hp → Prop := fun k H2 =>
  if k = true then c.den v W σ H2 (KC2 v.K o2 y P) else P false H2
theorem e_chn {o1 o2 : CmpOp} {a b c : Xp} (h : a.den v W σ H (KH1 v o1 o2 b c W σ (KBl Q))) : Xp.den v (.chn o1 o2 a b c) W σ H Q := h
theorem t_chn {o1 o2 : CmpOp} {a b c : Xp} {P : Bool → Hp → Prop} (h : a.den v W σ H (KH1 v o1 o2 b c W σ P)) : Tt.den v (.chn o1 o2 a b c) W σ H P := h
theorem k_h1 {o1 o2 : CmpOp} {b c : Xp} {P : Bool → Hp → Prop} {x : V} (h : b.den v W σ H (KH2 v o1 o2 c W σ P x)) : KH1 v o1 o2 b c W σ P x H := h
theorem k_h2 {o1 o2 : CmpOp} {c : Xp} {P : Bool → Hp → Prop} {x y : V} (h : KC2 v.K o1 x (KH3 v o2 c W σ P y) y H) : KH2 v o1 o2 c W σ P x y H := h
theorem k_h3 {o2 : CmpOp} {c : Xp} {P : Bool → Hp → Prop} {y : V} {k : Bool} (ht : k = true → c.den v W σ H (KC2 v.K o2 y P)) (hf : k = false → P false H) : KH3 v o2 c W σ P y k H := by
  cases k with
  | true => exact ht rfl
  | false => exact hf rfl
/-! slices -/
def KSa (v : Ev) (lo hi : Xpo) (W : WX) (σ : St) (Q : VK) : VK := fun x H1 => lo.den v W σ H1 fun l H2 => hi.den v W σ H2 fun u H3 => rSlAny v.K x l u H3 Q
def KSb (v : Ev) (hi : Xpo) (W : WX) (σ : St) (Q : VK) (x : V) : Option Int → Hp → Prop := fun l H2 => hi.den v W σ H2 fun u H3 => rSlAny v.K x l u H3 Q
def KSc (K : PySem.W.Frag) (Q : VK) (x : V) (l : Option Int) : Option Int → Hp → Prop := fun u H3 => rSlAny K x l u H3 Q
def KPa (P : Option Int → Hp → Prop) : VK := fun x H1 => ∃ i, x = .int i ∧ P (some i) H1
theorem e_slc {a : Xp} {lo hi : Xpo} (h : a.den v W σ H (KSa v lo hi W σ Q)) : Xp.den v (.sl a lo hi) W σ H Q := h
theorem k_sa {lo hi : Xpo} {x : V} (h : lo.den v W σ H (KSb v hi W σ Q x)) : KSa v lo hi W σ Q x H := h
theorem k_sb {hi : Xpo} {x : V} {l : Option Int} (h : hi.den v W σ H (KSc v.K Q x l)) : KSb v hi W σ Q x l H := h
theorem p_no {P : Option Int → Hp → Prop} (h : P none H) : Xpo.den v .no W σ H P := h
theorem p_so {e : Xp} {P : Option Int → Hp → Prop} (h : e.den v W σ H (KPa P)) : Xpo.den v (.so e) W σ H P := h
theorem k_pa {P : Option Int → Hp → Prop} {i : Int} (h : P (some i) H) : KPa P (.int i) H := ⟨i, rfl, h⟩
theorem k_scL {a : Addr} {xs : List V} {l u : Option Int} (h : SqL K w.H a xs) (q : KNew (.lst (cutV xs l u)) Q w.H) : KSc K Q (.ref a) l u w.H := RSlR.lst h q
theorem cutV_map {α : Type} (f : α → V) (xs : List α) (l u : Option Int) : cutV (xs.map f) l u = ((xs.drop (HT.sIx xs.length 0 l)).take (HT.sIx xs.length xs.length u - HT.sIx xs.length 0 l)).map f := by
  unfold cutV; rw [List.length_map, List.map_take, List.map_drop]
/-- the part of a list -/
def cutD {α : Type} (xs : List α) (l u : Option Int) : List α := (xs.drop (HT.sIx xs.length 0 l)).take (HT.sIx xs.length xs.length u - HT.sIx xs.length 0 l)
theorem cut_none {α : Type} {xs : List α} : cutD xs none none = xs := by
  unfold cutD; rw [HT.sIx_none, HT.sIx_none, List.drop_zero, Nat.sub_zero, List.take_length]
theorem cut_take {α : Type} {xs : List α} {k : Nat} : cutD xs none (some (k : Int)) = xs.take k := by
  unfold cutD
  rw [HT.sIx_none, HT.sIx_nat, List.drop_zero, Nat.sub_zero]
  rcases Nat.le_total k xs.length with h | h
  · rw [Nat.min_eq_left h]
  · rw [Nat.min_eq_right h, List.take_length, List.take_of_length_le h]
theorem cut_drop {α : Type} {xs : List α} {k : Nat} : cutD xs (some (k : Int)) none = xs.drop k := by
  unfold cutD
  rw [HT.sIx_none, HT.sIx_nat]
  rcases Nat.le_total k xs.length with h | h
  · rw [Nat.min_eq_left h, List.take_of_length_le (by simp)]
  · rw [Nat.min_eq_right h, List.drop_length, List.drop_of_length_le h]; simp
theorem cut_mid {α : Type} {xs : List α} {i j : Nat} : cutD xs (some (i : Int)) (some (j : Int)) = (xs.drop i).take (j - i) := by
  unfold cutD
  rw [HT.sIx_nat, HT.sIx_nat]
  rcases Nat.le_total i xs.length with h | h
  · rw [Nat.min_eq_left h]
    rcases Nat.le_total j xs.length with h' | h'
    · rw [Nat.min_eq_left h']
    · rw [Nat.min_eq_right h', List.take_of_length_le (by simp), List.take_of_length_le (by simp; omega)]
  · rw [Nat.min_eq_right h, List.drop_length, List.drop_of_length_le h]; simp
theorem cut_len {α : Type} {xs : List α} {l u : Option Int} : (cutD xs l u).length ≤ xs.length := by
  unfold cutD; rw [List.length_take, List.length_drop]; omega
theorem Dvs.take : ∀ {xs : List V} {ds : List PyData} (k : Nat), Dvs w xs ds → Dvs w (xs.take k) (ds.take k)
  | _, _, 0, _ => by simpa using Dvs.nil
  | _, _, k + 1, .nil => by simpa using Dvs.nil
  | _, _, k + 1, .cons h r => .cons h (Dvs.take k r)
theorem Dvs.drop : ∀ {xs : List V} {ds : List PyData} (k : Nat), Dvs w xs ds → Dvs w (xs.drop k) (ds.drop k)
  | _, _, 0, h => h
  | _, _, k + 1, .nil => .nil
  | _, _, k + 1, .cons h r => Dvs.drop k r
theorem Dvs.cut {xs : List V} {ds : List PyData} {l u : Option Int} (h : Dvs w xs ds) : Dvs w (cutV xs l u) (cutD ds l u) := by
  unfold cutV cutD
  rw [h.length]
  exact (h.drop _).take _
theorem cutD_map {α β : Type} (f : α → β) (xs : List α) (l u : Option Int) : cutD (xs.map f) l u = (cutD xs l u).map f := by
  unfold cutD; rw [List.length_map, List.map_take, List.map_drop]
/-- the part of sealed data -/
theorem k_scD {x : V} {ds : List PyData} {l u : Option Int} (hx : Dv w x (.list ds)) (q : ∀ w' y, Ex [] w w' → Dv w' y (.list (cutD ds l u)) → Q y w'.H) : KSc K Q x l u w.H := by
  obtain ⟨a, xs, rfl, s, e, r⟩ := hx.of_lst
  exact k_scL (sqL e) (new_lst r.cut q)
theorem k_scO {a : Addr} {xs : List V} {ds : List PyData} {l u : Option Int} (e : w.H a = some (.lst xs)) (r : Dvs w xs ds) (q : ∀ w' y, Ex [] w w' → Dv w' y (.list (cutD ds l u)) → Q y w'.H) : KSc K Q (.ref a) l u w.H :=
  k_scL (sqL e) (new_lst r.cut q)
theorem k_scF {a : Addr} {ns : List Int} {l u : Option Int} (h : SqL K w.H a (ns.map V.int)) (q : ∀ w' y, Ex [] w w' → Dv w' y (.list ((cutD ns l u).map .int)) → Q y w'.H) : KSc K Q (.ref a) l u w.H :=
  k_scL h (by rw [cutV_map]; exact new_lst (Dvs.ints _) q)
/-! what the given list holds -/
theorem f_lenF {a : Addr} {xs : List V} (h : SqL K w.H a xs) (q : Q (.int xs.length) w.H) : KBf K .len Q [.ref a] w.H := RLen.lst h q
theorem i_F {a : Addr} {xs : List V} {i : Int} {y : V} (h : SqL K w.H a xs) (hi : 0 ≤ i) (hy : xs[i.toNat]? = some y) (q : Q y w.H) : KI2 K (.ref a) Q (.int i) w.H := RIxR.lst h rfl (atI_pos hi hy) q
theorem i_FT {a : Addr} {xs : List V} {i : Int} {y : V} (h : SqT K w.H a xs) (hi : 0 ≤ i) (hy : xs[i.toNat]? = some y) (q : Q y w.H) : KI2 K (.ref a) Q (.int i) w.H := RIxR.tup h rfl (atI_pos hi hy) q
theorem f_lstF {a : Addr} {xs : List V} (h : SqL K w.H a xs) (q : KNew (.lst xs) Q w.H) : KBf K .list Q [.ref a] w.H := RLst.lst h q
theorem f_lstT {x : V} {ds : List PyData} (hx : Dv w x (.tuple ds)) (h : ∀ w' y, Ex [] w w' → Dv w' y (.list ds) → Q y w'.H) : KBf K .list Q [x] w.H := by
  obtain ⟨a, xs, rfl, s, e, r⟩ := hx.of_tup
  exact RLst.tup (sqT e) (new_lst r h)
/-! pairs, raw -/
theorem g_tupR {gs : Tgs} {P : St → Hp → Prop} {T : Addr} {xs : List V} (h : w.H T = some (.tup xs)) (hn : xs.length = gs.len) (k : KTs v gs W P xs σ w.H) : Tg.den v (.tup gs) W (.ref T) σ w.H P :=
  .inl ⟨T, xs, rfl, sqT h, hn, k⟩
/-! enumerate -/
def KEn (K : PySem.W.Frag) (R : It → Hp → Prop) : List V → Hp → Prop := fun vs H1 => ∃ a xs, vs = [.ref a] ∧ SqL K H1 a xs ∧ R (Ite K a) H1
theorem q_enm {e : Xp} {R : It → Hp → Prop} (h : Xps.den v (.cons e .nil) W σ H (KEn v.K R)) : Sq.den v (.enm e) W σ H R := h
theorem k_en {a : Addr} {xs : List V} {R : It → Hp → Prop} (h : SqL K w.H a xs) (r : R (Ite K a) w.H) : KEn K R [.ref a] w.H := ⟨a, xs, rfl, h, r⟩
theorem k_for_enm {a : Addr} {xs : List V} {g : TG} {tb : TS} (Inv : Nat → St → Wd → Prop) (hk : ∀ i σ w', Inv i σ w' → SqL K w'.H a xs) (h0 : Inv 0 σ w)
    (hs : ∀ (i : Nat) x σ w' w2 T, xs[i]? = some x → Inv i σ w' → Ex [] w' w2 → w2.H T = some (.tup [.int i, x]) → g (.ref T) σ w2.H fun σ2 H2 => tb ⟨KIs (Inv (i + 1)), rt, nx, KIs (Inv (i + 1))⟩ σ2 H2)
    (hd : ∀ σ w', Inv xs.length σ w' → nx σ w'.H) : KFor g tb ⟨nx, rt, bk, ct⟩ σ (Ite K a) w.H := by
  refine ⟨fun i m σ H => m = xs.length - i ∧ i ≤ xs.length ∧ KIs (Inv i) σ H, ⟨xs.length, by simp, Nat.zero_le _, k_is h0⟩, ?_⟩
  rintro i m σ H ⟨rfl, hi, w', rfl, p⟩
  have q := hk i σ w' p
  by_cases hlt : i < xs.length
  · refine .inr ⟨⟨xs, xs[i], q, by simp [hlt]⟩, KIs (Inv (i + 1)), fun σ' H' p' => ⟨xs.length - (i + 1), by omega, rfl, hlt, p'⟩, fun z H' y => ?_⟩
    obtain ⟨T, x, rfl, hT, rfl, f⟩ := y
    exact hs i x σ w' (w'.put T _) T (f xs q) p (ex_new hT) upd_same
  · have e : i = xs.length := by omega
    subst e
    exact .inl ⟨⟨xs, q, Nat.le_refl _⟩, hd σ w' p⟩
/-! a comprehension over a tuple -/
theorem k_lc_tup {a : Addr} {xs : List V} {g : TG} {tt : TT} {te : TE} {vs : List Nat} (h : ∀ w1 D, Ex [] w w1 → w.H D = none → Op w1 D (.lst []) → ∃ Inv : Nat → Wd → Prop, Inv 0 w1 ∧ (∀ i w', Inv i w' → SqT K w'.H a xs) ∧
    (∀ i x w', xs[i]? = some x → Inv i w' → g x (wipe σ vs) w'.H (KLb tt te vs σ D (Inv (i + 1)))) ∧ ∀ w', Inv xs.length w' → Q (.ref D) w'.H) : KLc g tt te vs σ Q (Itt K a) w.H := fun D hD => by
  obtain ⟨Inv, h0, hk, hs, hd⟩ := h (w.put D (.lst [])) D (ex_new hD) hD (op_new hD)
  exact lc_tup (xs := xs) (Qd := Q (.ref D)) (fun i => KIw (Inv i)) ⟨_, rfl, h0⟩ (fun i H hi ⟨w', e, p⟩ => by subst e; exact hk i w' p) (fun i x H hx ⟨w', e, p⟩ => by subst e; exact hs i x w' hx p) fun H ⟨w', e, p⟩ => by subst e; exact hd w' p
/-! comprehensions that make one thing of each -/
theorem k_lc_D {x : V} {ds : List PyData} {g : TG} {tt : TT} {te : TE} {vs : List Nat} (hx : Dv w x (.list ds)) (h : ∀ w1 D, Ex [] w w1 → w.H D = none → Op w1 D (.lst []) → ∃ Inv : Nat → Wd → Prop, Inv 0 w1 ∧ (∀ i w', Inv i w' → ∃ T, Ex T w w') ∧
    (∀ i d y w', ds[i]? = some d → Dv w' y d → Inv i w' → g y (wipe σ vs) w'.H (KLb tt te vs σ D (Inv (i + 1)))) ∧ ∀ w', Inv ds.length w' → Q (.ref D) w'.H) : KLs K (KLc g tt te vs σ Q) x w.H := by
  refine k_lsD hx fun a xs e s ha r => ?_
  refine k_lc_lst (xs := xs) fun w1 D e1 hD o1 => ?_
  obtain ⟨Inv, h0, hk, hs, hd⟩ := h w1 D e1 hD o1
  refine ⟨Inv, h0, fun i w' p => ?_, fun i y w' hy p => ?_, fun w' p => hd w' (by rw [← r.length]; exact p)⟩
  · obtain ⟨T, ex⟩ := hk i w' p
    exact sqL (ex.keepL s ha)
  · obtain ⟨T, ex⟩ := hk i w' p
    obtain ⟨d, hd, hv⟩ := r.get' hy
    exact hs i d y w' hd (hv.ex ex) p
theorem k_lc_DT {x : V} {ds : List PyData} {g : TG} {tt : TT} {te : TE} {vs : List Nat} (hx : Dv w x (.tuple ds)) (h : ∀ w1 D, Ex [] w w1 → w.H D = none → Op w1 D (.lst []) → ∃ Inv : Nat → Wd → Prop, Inv 0 w1 ∧ (∀ i w', Inv i w' → ∃ T, Ex T w w') ∧
    (∀ i d y w', ds[i]? = some d → Dv w' y d → Inv i w' → g y (wipe σ vs) w'.H (KLb tt te vs σ D (Inv (i + 1)))) ∧ ∀ w', Inv ds.length w' → Q (.ref D) w'.H) : KLt K (KLc g tt te vs σ Q) x w.H := by
  refine k_ltD hx fun a xs e s ha r => ?_
  refine k_lc_tup (xs := xs) fun w1 D e1 hD o1 => ?_
  obtain ⟨Inv, h0, hk, hs, hd⟩ := h w1 D e1 hD o1
  refine ⟨Inv, h0, fun i w' p => ?_, fun i y w' hy p => ?_, fun w' p => hd w' (by rw [← r.length]; exact p)⟩
  · obtain ⟨T, ex⟩ := hk i w' p
    exact sqT (ex.keepL s ha)
  · obtain ⟨T, ex⟩ := hk i w' p
    obtain ⟨d, hd, hv⟩ := r.get' hy
    exact hs i d y w' hd (hv.ex ex) p
/-- the turn of such a comprehension -/
def KMk1 (te : TE) (vs : List Nat) (σ0 : St) (R : VK) : St → Hp → Prop := fun σ2 H2 => wipe σ2 vs = wipe σ0 vs ∧ te σ2 H2 R
theorem k_mk1 {te : TE} {vs : List Nat} {σ0 : St} {R : VK} (hw : wipe σ vs = wipe σ0 vs) (h : te σ H R) : KMk1 te vs σ0 R σ H := ⟨hw, h⟩
def InvM (w : Wd) (D : Addr) (f : Nat → PyData) (i : Nat) (w' : Wd) : Prop := Ex [] w w' ∧ ∃ zs, Op w' D (.lst zs) ∧ Dvs w' zs ((List.range i).map f)
theorem invM_next {D : Addr} {f : Nat → PyData} {i : Nat} {w1 w2 : Wd} {x : V} (hD : w.H D = none) (p : InvM w D f i w1) (e : Ex [] w1 w2) (d : Dv w2 x (f i)) (hl : i < 1000000) : KAp D (InvM w D f (i + 1)) x w2.H := by
  obtain ⟨E, zs, o, r⟩ := p
  have rl := r.length
  rw [List.length_map, List.length_range] at rl
  refine k_ap (o.ex e (by simp)) (by rw [rl, sizeLine_eq]; omega) fun w3 e3 o3 => ⟨(E.t0 e).tf e3 hD, _, o3, ?_⟩
  rw [List.range_succ, List.map_append]
  exact ((r.ex e).ex e3).app (.cons (d.ex e3) .nil)
theorem k_lc_mk {x : V} {ds : List PyData} {g : TG} {te : TE} {vs : List Nat} (hx : Dv w x (.list ds)) (f : Nat → PyData) (hn : ds.length ≤ 1000000)
    (hs : ∀ i d y w' (R : VK), ds[i]? = some d → Ex [] w w' → Dv w' y d → (∀ w2 z, Ex [] w' w2 → Dv w2 z (f i) → R z w2.H) → g y (wipe σ vs) w'.H (KMk1 te vs σ R))
    (hd : ∀ w' p zs, Ex [] w w' → w.H p = none → Op w' p (.lst zs) → Dvs w' zs ((List.range ds.length).map f) → Q (.ref p) w'.H) : KLs K (KLc g (Tto.den v .no W) te vs σ Q) x w.H := by
  refine k_lc_D hx fun w1 D e1 hD o1 => ⟨InvM w D f, ⟨e1, [], o1, .nil⟩, fun i w' p => ⟨[], p.1⟩, fun i d y w' hd' dy p => ?_, fun w' p => ?_⟩
  · have hi : i < ds.length := by
      rcases Nat.lt_or_ge i ds.length with h | h
      · exact h
      · rw [List.getElem?_eq_none h] at hd'; cases hd'
    exact hs i d y w' (KAp D (InvM w D f (i + 1))) hd' p.1 dy fun w2 z e d => invM_next hD p e d (by omega)
  · obtain ⟨E, zs, o, r⟩ := p
    exact hd w' D zs E hD o r
theorem k_lc_mkT {x : V} {ds : List PyData} {g : TG} {te : TE} {vs : List Nat} (hx : Dv w x (.tuple ds)) (f : Nat → PyData) (hn : ds.length ≤ 1000000)
    (hs : ∀ i d y w' (R : VK), ds[i]? = some d → Ex [] w w' → Dv w' y d → (∀ w2 z, Ex [] w' w2 → Dv w2 z (f i) → R z w2.H) → g y (wipe σ vs) w'.H (KMk1 te vs σ R))
    (hd : ∀ w' p zs, Ex [] w w' → w.H p = none → Op w' p (.lst zs) → Dvs w' zs ((List.range ds.length).map f) → Q (.ref p) w'.H) : KLt K (KLc g (Tto.den v .no W) te vs σ Q) x w.H := by
  refine k_lc_DT hx fun w1 D e1 hD o1 => ⟨InvM w D f, ⟨e1, [], o1, .nil⟩, fun i w' p => ⟨[], p.1⟩, fun i d y w' hd' dy p => ?_, fun w' p => ?_⟩
  · have hi : i < ds.length := by
      rcases Nat.lt_or_ge i ds.length with h | h
      · exact h
      · rw [List.getElem?_eq_none h] at hd'; cases hd'
    exact hs i d y w' (KAp D (InvM w D f (i + 1))) hd' p.1 dy fun w2 z e d => invM_next hD p e d (by omega)
  · obtain ⟨E, zs, o, r⟩ := p
    exact hd w' D zs E hD o r
theorem k_lc_mkR {m : Nat} {g : TG} {te : TE} {vs : List Nat} (n : Nat) (hm : m = n) (f : Nat → PyData) (hn : n ≤ 1000000)
    (hs : ∀ (i : Nat) w' (R : VK), i < n → Ex [] w w' → (∀ w2 z, Ex [] w' w2 → Dv w2 z (f i) → R z w2.H) → g (.int i) (wipe σ vs) w'.H (KMk1 te vs σ R))
    (hd : ∀ w' p zs, Ex [] w w' → w.H p = none → Op w' p (.lst zs) → Dvs w' zs ((List.range n).map f) → Q (.ref p) w'.H) : KLc g (Tto.den v .no W) te vs σ Q (Itr 0 m) w.H := by
  subst hm
  refine k_lc_n m rfl fun w1 D e1 hD o1 => ⟨InvM w D f, ⟨e1, [], o1, .nil⟩, fun i w' hi p => ?_, fun w' p => ?_⟩
  · exact hs i w' (KAp D (InvM w D f (i + 1))) hi p.1 fun w2 z e d => invM_next hD p e d (by omega)
  · obtain ⟨E, zs, o, r⟩ := p
    exact hd w' D zs E hD o r
/-- ints made so -/
theorem Dvs.ints_of {zs : List V} {n : Nat} {f : Nat → Int} (h : Dvs w zs ((List.range n).map fun i => .int (f i))) : zs = ((List.range n).map f).map V.int := by
  refine Dvs.of_ints (w := w) ?_
  rw [List.map_map]; exact h
theorem range_map {α β : Type} {z : α} (f : α → β) (l : List α) : (List.range l.length).map (fun i => f (l.getD i z)) = l.map f := by
  refine List.ext_getElem? fun i => ?_
  rw [List.getElem?_map, List.getElem?_map]
  by_cases h : i < l.length
  · rw [List.getElem?_range h, List.getElem?_eq_getElem h]
    show some (f (l.getD i z)) = some (f l[i])
    rw [List.getD_eq_getElem?_getD, List.getElem?_eq_getElem h]; rfl
  · rw [List.getElem?_eq_none (by simpa using h), List.getElem?_eq_none (by simpa using h)]; rfl
theorem get_map {α β : Type} {z : α} {f : α → β} {l : List α} {i : Nat} {d : β} (h : (l.map f)[i]? = some d) : i < l.length ∧ d = f (l.getD i z) := by
  rw [List.getElem?_map] at h
  obtain ⟨x, hx, rfl⟩ := Option.map_eq_some_iff.mp h
  have hi : i < l.length := by
    rcases Nat.lt_or_ge i l.length with q | q
    · exact q
    · rw [List.getElem?_eq_none q] at hx; cases hx
  refine ⟨hi, ?_⟩
  rw [List.getD_eq_getElem?_getD, hx]; rfl
/-! sum, all, any -/
theorem f_sum {a : Addr} {ns : List Int} (h : w.H a = some (.lst (ns.map V.int))) (q : Q (.int ns.sum) w.H) : KBf K .sum Q [.ref a] w.H := ⟨ns, sqL h, q⟩
theorem f_all {a : Addr} {bs : List Bool} (h : w.H a = some (.lst (bs.map V.bl))) (q : Q (.bl (bs.all id)) w.H) : KBf K .all Q [.ref a] w.H := ⟨bs, sqL h, q⟩
theorem f_any {a : Addr} {bs : List Bool} (h : w.H a = some (.lst (bs.map V.bl))) (q : Q (.bl (bs.any id)) w.H) : KBf K .any Q [.ref a] w.H := ⟨bs, sqL h, q⟩
/-! sealing anything -/
theorem seal_any {a : Addr} {o : HO} (h : Op w a o) : ∃ w', w'.H = w.H ∧ Ex [a] w w' ∧ w'.S a ∧ w'.H a = some o :=
  ⟨w.seal a o h.h, rfl, ex_seal h, .inr rfl, h.h⟩
theorem k_ltR {a : Addr} {xs : List V} {R : It → Hp → Prop} (e : w.H a = some (.tup xs)) (h : R (Itt K a) w.H) : KLt K R (.ref a) w.H := ⟨a, rfl, ⟨xs, sqT e⟩, h⟩
/-- a field of an object, open or sealed -/
theorem k_flH {C a dx : Addr} {f : Str} {fs : List (Str × V)} {z : V} (o : w.H a = some (.ins C dx fs)) (hl : fs.lookup f = some z) (h : Q z w.H) : KFl C f Q (.ref a) w.H := ⟨a, dx, fs, z, rfl, o, hl, h⟩
theorem k_meH {m C : Nat} {nm : Str} {es : Xps} {a dx : Addr} {fs : List (Str × V)} (o : w.H a = some (.ins (v.cls C) dx fs)) (hn : fs.lookup nm = none) (h : es.den v W σ w.H (KMc v m a W σ Q)) : KMe v m C nm es W σ Q (.ref a) w.H := ⟨a, dx, fs, rfl, o, hn, h⟩
/-! zip -/
def KZp (K : PySem.W.Frag) (R : It → Hp → Prop) : List V → Hp → Prop := fun vs H1 => ∃ a b xs ys, vs = [.ref a, .ref b] ∧ ((SqL K H1 a xs ∧ SqL K H1 b ys ∧ R (Itz K a b) H1) ∨ (SqT K H1 a xs ∧ SqT K H1 b ys ∧ R (RZ.ItzT K a b) H1))
theorem q_zip {e e' : Xp} {R : It → Hp → Prop} (h : Xps.den v (.cons e (.cons e' .nil)) W σ H (KZp v.K R)) : Sq.den v (.zip e e') W σ H R := h
theorem k_zp {a b : Addr} {xs ys : List V} {R : It → Hp → Prop} (h : SqL K w.H a xs) (h' : SqL K w.H b ys) (r : R (Itz K a b) w.H) : KZp K R [.ref a, .ref b] w.H := ⟨a, b, xs, ys, rfl, .inl ⟨h, h', r⟩⟩
theorem k_for_zip {a b : Addr} {xs ys : List V} {g : TG} {tb : TS} (hl : xs.length = ys.length) (Inv : Nat → St → Wd → Prop) (hk : ∀ i σ w', Inv i σ w' → SqL K w'.H a xs ∧ SqL K w'.H b ys) (h0 : Inv 0 σ w)
    (hs : ∀ (i : Nat) x y σ w' w2 T, xs[i]? = some x → ys[i]? = some y → Inv i σ w' → Ex [] w' w2 → w2.H T = some (.tup [x, y]) → g (.ref T) σ w2.H fun σ2 H2 => tb ⟨KIs (Inv (i + 1)), rt, nx, KIs (Inv (i + 1))⟩ σ2 H2)
    (hd : ∀ σ w', Inv xs.length σ w' → nx σ w'.H) : KFor g tb ⟨nx, rt, bk, ct⟩ σ (Itz K a b) w.H :=
  RZ.for_zipL (xs := xs) (ys := ys) hl (fun i => KIs (Inv i)) (k_is h0) (fun i σ H ⟨w', e, p⟩ => by subst e; exact hk i σ w' p)
    (fun i x y T σ H hx hy ⟨w', e, p⟩ hT => by subst e; exact hs i x y σ w' (w'.put T _) T hx hy p (ex_new hT) upd_same) fun σ H ⟨w', e, p⟩ => by subst e; exact hd σ w' p
/-! reversed -/
def KRv (K : PySem.W.Frag) (R : It → Hp → Prop) : VK := fun x H1 => ∃ (a : Addr) (xs : List V), x = .ref a ∧ ((SqL K H1 a xs ∧ R (Itv K a xs.length) H1) ∨ (SqT K H1 a xs ∧ R (RT.ItvT K a xs.length) H1))
/-- reversed(a text) -/
def KRvT (R : It → Hp → Prop) : VK := fun x H1 => ∃ z : Str, x = .str z ∧ z.length ≤ sizeLine ∧ R (RX.ItsR z) H1
theorem q_rvT {e : Xp} {R : It → Hp → Prop} (h : e.den v W σ H (KRvT R)) : Sq.den v (.rvT e) W σ H R := h
theorem k_rvT {z : Str} {R : It → Hp → Prop} (hz : z.length ≤ sizeLine) (r : R (RX.ItsR z) H) : KRvT R (.str z) H := ⟨z, rfl, hz, r⟩
theorem k_for_rvT {z : Str} {g : TG} {tb : TS} {w : Wd} (Inv : Nat → St → Wd → Prop) (h0 : Inv 0 σ w)
    (hs : ∀ (i c : Nat) σ w', z.cps[z.cps.size - 1 - i]? = some c → i < z.cps.size → Inv i σ w' → g (.str ⟨#[c]⟩) σ w'.H fun σ2 H2 => tb ⟨KIs (Inv (i + 1)), rt, nx, KIs (Inv (i + 1))⟩ σ2 H2)
    (hd : ∀ σ w', Inv z.cps.size σ w' → nx σ w'.H) : KFor g tb ⟨nx, rt, bk, ct⟩ σ (RX.ItsR z) w.H := by
  refine ⟨fun i m σ H => m = z.cps.size - i ∧ i ≤ z.cps.size ∧ KIs (Inv i) σ H, ⟨z.cps.size, by simp, Nat.zero_le _, k_is h0⟩, ?_⟩
  rintro i m σ H ⟨rfl, hi, w', rfl, p⟩
  by_cases hlt : i < z.cps.size
  · refine .inr ⟨hlt, KIs (Inv (i + 1)), fun σ' H' p' => ⟨z.cps.size - (i + 1), by omega, rfl, hlt, p'⟩, fun y H' q => ?_⟩
    obtain ⟨rfl, c, hc, rfl⟩ := q
    exact hs i c σ w' hc hlt p
  · have e : i = z.cps.size := by omega
    subst e
    exact .inl ⟨Nat.le_refl _, hd σ w' p⟩
theorem q_rvs {e : Xp} {R : It → Hp → Prop} (h : e.den v W σ H (KRv v.K R)) : Sq.den v (.rvs e) W σ H R := h
theorem k_rvL {a : Addr} {xs : List V} {R : It → Hp → Prop} (h : SqL K w.H a xs) (r : R (Itv K a xs.length) w.H) : KRv K R (.ref a) w.H := ⟨a, xs, rfl, .inl ⟨h, r⟩⟩
theorem k_for_rvL {a : Addr} {xs : List V} {g : TG} {tb : TS} (Inv : Nat → St → Wd → Prop) (hk : ∀ i σ w', Inv i σ w' → SqL K w'.H a xs) (h0 : Inv 0 σ w)
    (hs : ∀ (i : Nat) x σ w', i < xs.length → xs[xs.length - 1 - i]? = some x → Inv i σ w' → g x σ w'.H fun σ2 H2 => tb ⟨KIs (Inv (i + 1)), rt, nx, KIs (Inv (i + 1))⟩ σ2 H2)
    (hd : ∀ σ w', Inv xs.length σ w' → nx σ w'.H) : KFor g tb ⟨nx, rt, bk, ct⟩ σ (Itv K a xs.length) w.H :=
  RT.for_Itv (fun i => KIs (Inv i)) (k_is h0) (fun i σ H ⟨w', e, p⟩ => by subst e; exact hk i σ w' p)
    (fun i x σ H hi hx ⟨w', e, p⟩ => by subst e; exact hs i x σ w' hi hx p) fun σ H ⟨w', e, p⟩ => by subst e; exact hd σ w' p
end
/-- a divisor's size -/
theorem log_small {m : Int} (h : m.natAbs < 2 ^ 9000 := by decide) : m.natAbs.log2 < 9000 := by
  rcases Nat.eq_zero_or_pos m.natAbs with e | e
  · rw [e]; decide
  · exact (Nat.log2_lt (by omega)).mpr h
theorem log_small' {m : Int} (h0 : 0 ≤ m) (h1 : m < 2 ^ 64) : m.natAbs.log2 < 9000 := log_small (Nat.lt_of_lt_of_le (show m.natAbs < 2 ^ 64 by omega) (Nat.pow_le_pow_right (by decide) (by decide)))
end DI

/-! DI, part 17: keyword calls, bit_length, range with a step; texts by their signs. -/
namespace DI
open L2
open PySem.Spec
open PyProof.Rows hiding St
open PySem

section
variable {v : Ev} {D : Nat → Df} {n : Nat} {W : WX} {σ : St} {H : Hp} {Q : VK} {nx bk ct : St → Hp → Prop} {rt : VK} {w : Wd} {K : PySem.W.Frag}

/-! keyword calls -/
def KK1 (v : Ev) (f : Nat) (ks : Xps) (W : WX) (σ : St) (Q : VK) : List V → Hp → Prop := fun vs H => ks.den v W σ H fun zs H2 => zs.length = ks.len ∧ v.sp f (vs ++ zs) H2 Q fun c d H3 => W c d σ H3
def KK2 (v : Ev) (f l : Nat) (vs : List V) (W : WX) (σ : St) (Q : VK) : List V → Hp → Prop := fun zs H => zs.length = l ∧ v.sp f (vs ++ zs) H Q fun c d H3 => W c d σ H3
theorem e_callk {f : Nat} {es ks : Xps} (h : es.den v W σ H (KK1 v f ks W σ Q)) : Xp.den v (.callk f es ks) W σ H Q := h
theorem k_k1 {f : Nat} {ks : Xps} {vs : List V} (h : ks.den v W σ H (KK2 v f ks.len vs W σ Q)) : KK1 v f ks W σ Q vs H := h
theorem k_k2 {f l : Nat} {vs zs : List V} (hl : zs.length = l) (h : spOf v D n f (vs ++ zs) H Q fun c d H3 => W c d σ H3) : KK2 (evAt v D n) f l vs W σ Q zs H := ⟨hl, h⟩
/-! bit_length -/
def KBi (Q : VK) : VK := fun x H1 => ∃ i, x = .int i ∧ Q (.int (Builtin.Int.intBits i : Nat)) H1
theorem e_bits {a : Xp} (h : a.den v W σ H (KBi Q)) : Xp.den v (.bits a) W σ H Q := h
theorem k_bits {i : Int} (h : Q (.int (Builtin.Int.intBits i : Nat)) H) : KBi Q (.int i) H := ⟨i, rfl, h⟩
/-! range with a step -/
def KR3c (R : It → Hp → Prop) : List V → Hp → Prop := fun vs H1 => ∃ (i j c : Int) (n : Nat), vs = [.int i, .int j, .int c] ∧ RgC i j c n ∧ R (Itc i c n) H1
theorem q_rng3 {a b c : Xp} {R : It → Hp → Prop} (h : Xps.den v (.cons a (.cons b (.cons c .nil))) W σ H (KR3c R)) : Sq.den v (.rng3 a b c) W σ H R := h
theorem k_r3 {i j : Int} {R : It → Hp → Prop} (c : -(2 ^ 62) ≤ i ∧ i < 2 ^ 62 ∧ -(2 ^ 62) ≤ j ∧ j < 2 ^ 62) (h : R (Itc i (-1) (i - j).toNat) H) : KR3c R [.int i, .int j, .int (-1)] H :=
  ⟨i, j, -1, _, rfl, RgC.neg c.1 c.2.1 c.2.2.1 c.2.2.2, h⟩
theorem k_for_rngC {lo c : Int} {m : Nat} {g : TG} {tb : TS} (Inv : Nat → St → Wd → Prop) (h0 : Inv 0 σ w)
    (hs : ∀ (i : Nat) σ w', i < m → Inv i σ w' → g (.int (lo + (i : Int) * c)) σ w'.H fun σ2 H2 => tb ⟨KIs (Inv (i + 1)), rt, nx, KIs (Inv (i + 1))⟩ σ2 H2)
    (hd : ∀ σ w', Inv m σ w' → nx σ w'.H) : KFor g tb ⟨nx, rt, bk, ct⟩ σ (Itc lo c m) w.H := by
  refine ⟨fun i k σ H => k = m - i ∧ i ≤ m ∧ KIs (Inv i) σ H, ⟨m, by simp, Nat.zero_le _, k_is h0⟩, ?_⟩
  rintro i k σ H ⟨rfl, hi, w', rfl, p⟩
  by_cases hlt : i < m
  · refine .inr ⟨hlt, KIs (Inv (i + 1)), fun σ' H' p' => ⟨m - (i + 1), by omega, rfl, hlt, p'⟩, fun z H' y => ?_⟩
    obtain ⟨rfl, rfl⟩ := y
    exact hs i σ w' hlt p
  · have e : i = m := by omega
    subst e
    exact .inl ⟨Nat.le_refl _, hd σ w' p⟩

/-! ### texts -/
theorem S_tl (x : Str) : S x.cps.toList = x := rfl
theorem S_len (a : List Nat) : (S a).length = a.length := by simp [S, Str.length]
theorem S_list (a : List Nat) : (S a).cps.toList = a := by simp [S]
theorem S_inj {a b : List Nat} (h : S a = S b) : a = b := by rw [← S_list a, ← S_list b, h]
theorem S_dec {a b : List Nat} : decide (S a = S b) = decide (a = b) := by
  by_cases h : a = b
  · subst h; simp
  · rw [decide_eq_false h, decide_eq_false (fun q => h (S_inj q))]
theorem S_cat (a b : List Nat) : S a ++ S b = S (a ++ b) := SX.S_cat a b
theorem o_addS {a b : List Nat} (c : a.length + b.length ≤ sizeLine) (h : Q (.str (S (a ++ b))) H) : KB2 K .Add (.str (S a)) Q (.str (S b)) H := o_adds (by rw [S_len, S_len]; exact c) (by rw [S_cat]; exact h)
theorem f_lenSS {s : List Nat} (hl : s.length ≤ sizeLine) (h : Q (.int s.length) H) : KBf K .len Q [.str (S s)] H := f_lenS (by rw [S_len]; exact hl) (by rw [S_len]; exact h)
theorem foldl_sing (c : Nat) : ∀ (k : Nat) (acc : Array Nat), (List.replicate k #[c]).foldl (· ++ ·) acc = acc ++ (List.replicate k c).toArray
  | 0, acc => by simp
  | k + 1, acc => by
    rw [List.replicate_succ, List.foldl_cons, foldl_sing c k, List.replicate_succ]
    refine Array.ext' ?_
    simp
theorem mul_sing (c : Nat) (k : Int) : Txt.mul (S [c]) k = S (List.replicate k.toNat c) := by
  unfold Txt.mul
  split
  · rename_i h
    rw [show k.toNat = 0 by omega]
    rfl
  · rename_i h
    split
    · rename_i h2
      simp only [Bool.or_eq_true, beq_iff_eq] at h2
      rcases h2 with h2 | h2
      · subst h2; rfl
      · cases h2
    · show (⟨(List.replicate k.toNat #[c]).foldl (· ++ ·) #[]⟩ : Str) = _
      rw [foldl_sing]
      simp [S]
theorem o_repS {c : Nat} {k : Int} (h1 : -1000000 ≤ k) (h2 : k ≤ 1000000) (h : Q (.str (S (List.replicate k.toNat c))) H) : KB2 K .Mult (.str (S [c])) Q (.int k) H := by
  refine ⟨⟨?_, fun h3 _ => ?_, fun h3 _ => ?_⟩, by rw [mul_sing]; exact h⟩
  · simp; omega
  · have e1 : ((S [c]).length : Int) = 1 := rfl
    rw [e1]
    have : 1 ≤ (2 ^ 63 - 1 : Int) / k := by
      rw [Int.le_ediv_iff_mul_le (by omega)]
      omega
    omega
  · have e1 : (S [c]).length = 1 := rfl
    rw [e1]
    unfold Builtin.Str.tooLong
    rw [decide_eq_false]
    rw [sizeLine_eq]
    omega
theorem cutS_S (a : List Nat) (l u : Option Int) : cutS (S a) l u = S (cutD a l u) := by
  unfold cutS cutD
  simp [S, Str.length]
theorem k_scS {a : List Nat} {l u : Option Int} (hl : a.length ≤ sizeLine) (q : Q (.str (S (cutD a l u))) H) : KSc K Q (.str (S a)) l u H := ⟨by rw [S_len]; exact hl, by rw [cutS_S]; exact q⟩
theorem i_S {a : List Nat} {i : Int} {c : Nat} (hl : a.length ≤ sizeLine) (hi : 0 ≤ i) (hc : a[i.toNat]? = some c) (q : Q (.str (S [c])) H) : KI2 K (.str (S a)) Q (.int i) H :=
  ⟨i, c, rfl, by rw [S_len]; exact hl, by rw [S_list]; exact atI_pos hi hc, q⟩
theorem c_eqT {a b : List Nat} {P : Bool → Hp → Prop} (h : P (decide (a = b)) H) : KC2 K .Eq (.str (S a)) P (.str (S b)) H := c_eqs (by rw [S_dec]; exact h)
theorem c_neT {a b : List Nat} {P : Bool → Hp → Prop} (h : P (!decide (a = b)) H) : KC2 K .NotEq (.str (S a)) P (.str (S b)) H := c_nes (by rw [S_dec]; exact h)
theorem c_inS {c : Nat} {z : List Nat} {P : Bool → Hp → Prop} (h : P (decide (c ∈ z)) H) : KC2 K .In (.str (S [c])) P (.str (S z)) H := RInS.sign c rfl (by rw [S_list]; exact h)
theorem c_niS {c : Nat} {z : List Nat} {P : Bool → Hp → Prop} (h : P (!decide (c ∈ z)) H) : KC2 K .NotIn (.str (S [c])) P (.str (S z)) H := RInS.sign c rfl (by rw [S_list]; exact h)
theorem k_trS {s : List Nat} {P : Bool → Hp → Prop} (hl : s.length ≤ sizeLine) (h : P (decide (s.length ≠ 0)) H) : KTr K P (.str (S s)) H := ⟨by rw [S_len]; exact hl, by rw [S_len]; exact h⟩
/-- str of a bit -/
theorem f_strb {i : Int} (h0 : i = 0 ∨ i = 1) (h : Q (.str (S [48 + i.toNat])) H) : KBf K .str Q [.int i] H := by
  rcases h0 with e | e
  · subst e; exact ⟨by decide, h⟩
  · subst e; exact ⟨by decide, h⟩
/-! what a text is walked by -/
def KTx (R : It → Hp → Prop) : VK := fun z H1 => ∃ x, z = .str x ∧ R (Its x) H1
theorem q_txt {e : Xp} {R : It → Hp → Prop} (h : e.den v W σ H (KTx R)) : Sq.den v (.txt e) W σ H R := h
theorem k_tx {x : Str} {R : It → Hp → Prop} (h : R (Its x) H) : KTx R (.str x) H := ⟨x, rfl, h⟩
theorem k_for_txt {cs : List Nat} {g : TG} {tb : TS} (Inv : Nat → St → Wd → Prop) (h0 : Inv 0 σ w)
    (hs : ∀ (i : Nat) c σ w', cs[i]? = some c → Inv i σ w' → g (.str (S [c])) σ w'.H fun σ2 H2 => tb ⟨KIs (Inv (i + 1)), rt, nx, KIs (Inv (i + 1))⟩ σ2 H2)
    (hd : ∀ σ w', Inv cs.length σ w' → nx σ w'.H) : KFor g tb ⟨nx, rt, bk, ct⟩ σ (Its (S cs)) w.H := by
  refine ⟨fun i k σ H => k = cs.length - i ∧ i ≤ cs.length ∧ KIs (Inv i) σ H, ⟨cs.length, by simp, Nat.zero_le _, k_is h0⟩, ?_⟩
  rintro i k σ H ⟨rfl, hi, w', rfl, p⟩
  by_cases hlt : i < cs.length
  · refine .inr ⟨by show i < (S cs).cps.size; simpa [S] using hlt, KIs (Inv (i + 1)), fun σ' H' p' => ⟨cs.length - (i + 1), by omega, rfl, hlt, p'⟩, fun z H' y => ?_⟩
    obtain ⟨rfl, c, hc, rfl⟩ := y
    exact hs i c σ w' (by simpa [S] using hc) p
  · have e : i = cs.length := by omega
    subst e
    exact .inl ⟨by show (S cs).cps.size ≤ _; simp [S], hd σ w' p⟩
/-! comprehensions that make a list of plain values: f of each place -/
def InvV (w : Wd) (D : Addr) (f : Nat → V) (i : Nat) (w' : Wd) : Prop := Ex [] w w' ∧ Op w' D (.lst ((List.range i).map f))
theorem invV_next {D : Addr} {f : Nat → V} {i : Nat} {w1 w2 : Wd} (hD : w.H D = none) (p : InvV w D f i w1) (e : Ex [] w1 w2) (hl : i < 1000000) : KAp D (InvV w D f (i + 1)) (f i) w2.H := by
  obtain ⟨E, o⟩ := p
  refine k_ap (o.ex e (by simp)) (by rw [List.length_map, List.length_range, sizeLine_eq]; omega) fun w3 e3 o3 => ⟨(E.t0 e).tf e3 hD, ?_⟩
  rw [List.range_succ, List.map_append]
  exact o3
/-- over a text -/
theorem k_lc_tx {cs : List Nat} {g : TG} {te : TE} {vs : List Nat} {W' : WX} (f : Nat → V) (hn : cs.length ≤ 1000000)
    (hs : ∀ (i c : Nat) w' (R : VK), cs[i]? = some c → Ex [] w w' → (∀ w2, Ex [] w' w2 → R (f c) w2.H) → g (.str (S [c])) (wipe σ vs) w'.H (KMk1 te vs σ R))
    (hd : ∀ w' p, Ex [] w w' → w.H p = none → Op w' p (.lst (cs.map f)) → Q (.ref p) w'.H) : KLc g (Tto.den v .no W') te vs σ Q (Its (S cs)) w.H := fun D hD => by
  have hf : ∀ i, (List.range i).map (fun j => f (cs.getD j 0)) = (List.range i).map (fun j => f (cs.getD j 0)) := fun _ => rfl
  refine ⟨fun i k H => k = cs.length - i ∧ i ≤ cs.length ∧ KIw (InvV w D (fun j => f (cs.getD j 0)) i) H, ⟨cs.length, by simp, Nat.zero_le _, w.put D (.lst []), rfl, ex_new hD, op_new hD⟩, ?_⟩
  rintro i k H ⟨rfl, hi, w', rfl, p⟩
  by_cases hlt : i < cs.length
  · refine .inr ⟨by show i < (S cs).cps.size; simpa [S] using hlt, KIw (InvV w D (fun j => f (cs.getD j 0)) (i + 1)), fun H' p' => ⟨cs.length - (i + 1), by omega, rfl, hlt, p'⟩, fun z H' y => ?_⟩
    obtain ⟨rfl, c, hc, rfl⟩ := y
    have hc : cs[i]? = some c := by simpa [S] using hc
    have e : cs.getD i 0 = c := by rw [List.getD_eq_getElem?_getD, hc]; rfl
    refine hs i c w' (KAp D (InvV w D (fun j => f (cs.getD j 0)) (i + 1))) hc p.1 fun w2 e2 => ?_
    have := invV_next (f := fun j => f (cs.getD j 0)) hD p e2 (by omega)
    rwa [e] at this
  · have e : i = cs.length := by omega
    subst e
    refine .inl ⟨by show (S cs).cps.size ≤ _; simp [S], hd w' D p.1 hD ?_⟩
    have o := p.2
    rwa [range_map] at o
/-- over a range -/
theorem k_lc_rv {m : Nat} {g : TG} {te : TE} {vs : List Nat} {W' : WX} (f : Nat → V) (hn : m ≤ 1000000)
    (hs : ∀ (i : Nat) w' (R : VK), i < m → Ex [] w w' → (∀ w2, Ex [] w' w2 → R (f i) w2.H) → g (.int i) (wipe σ vs) w'.H (KMk1 te vs σ R))
    (hd : ∀ w' p, Ex [] w w' → w.H p = none → Op w' p (.lst ((List.range m).map f)) → Q (.ref p) w'.H) : KLc g (Tto.den v .no W') te vs σ Q (Itr 0 m) w.H := by
  refine k_lc_n m rfl fun w1 D e1 hD o1 => ⟨InvV w D f, ⟨e1, o1⟩, fun i w' hi p => ?_, fun w' p => hd w' D p.1 hD p.2⟩
  exact hs i w' (KAp D (InvV w D f (i + 1))) hi p.1 fun w2 e => invV_next hD p e (by omega)
/-- over sealed ints -/
theorem k_lc_iv {x : V} {ns : List Int} {g : TG} {te : TE} {vs : List Nat} {W' : WX} (hx : Dv w x (.list (ns.map .int))) (f : Int → V) (hn : ns.length ≤ 1000000)
    (hs : ∀ (i : Int) w' (R : VK), i ∈ ns → Ex [] w w' → (∀ w2, Ex [] w' w2 → R (f i) w2.H) → g (.int i) (wipe σ vs) w'.H (KMk1 te vs σ R))
    (hd : ∀ w' p, Ex [] w w' → w.H p = none → Op w' p (.lst (ns.map f)) → Q (.ref p) w'.H) : KLs K (KLc g (Tto.den v .no W') te vs σ Q) x w.H := by
  refine k_lc_D hx fun w1 D e1 hD o1 => ⟨InvV w D (fun j => f (ns.getD j 0)), ⟨e1, o1⟩, fun i w' p => ⟨[], p.1⟩, fun i d y w' hd' dy p => ?_, fun w' p => ?_⟩
  · obtain ⟨hi, rfl⟩ := get_map (z := 0) hd'
    obtain rfl := dy.of_int
    have hm : ns.getD i 0 ∈ ns := by
      rw [List.getD_eq_getElem?_getD, List.getElem?_eq_getElem hi]
      exact List.getElem_mem hi
    exact hs _ w' (KAp D (InvV w D (fun j => f (ns.getD j 0)) (i + 1))) hm p.1 fun w2 e => invV_next (f := fun j => f (ns.getD j 0)) hD p e (by omega)
  · have o := p.2
    rw [List.length_map, range_map] at o
    exact hd w' D p.1 hD o
/-! zip of two texts -/
def KZs (R : It → Hp → Prop) : List V → Hp → Prop := fun vs H1 => ∃ x y : Str, vs = [.str x, .str y] ∧ R (Izs x y) H1
theorem q_zipS {e e' : Xp} {R : It → Hp → Prop} (h : Xps.den v (.cons e (.cons e' .nil)) W σ H (KZs R)) : Sq.den v (.zipS e e') W σ H R := h
theorem k_zs {x y : Str} {R : It → Hp → Prop} (r : R (Izs x y) H) : KZs R [.str x, .str y] H := ⟨x, y, rfl, r⟩
theorem zip_map {f : Nat → Nat → V} (as bs : List Nat) : (List.range (min as.length bs.length)).map (fun j => f (as.getD j 0) (bs.getD j 0)) = List.zipWith f as bs := by
  refine List.ext_getElem? fun i => ?_
  rw [List.getElem?_map, List.getElem?_zipWith]
  by_cases h : i < min as.length bs.length
  · have h1 : i < as.length := by omega
    have h2 : i < bs.length := by omega
    rw [List.getElem?_range h, List.getElem?_eq_getElem h1, List.getElem?_eq_getElem h2]
    simp only [Option.map_some]
    rw [List.getD_eq_getElem?_getD, List.getElem?_eq_getElem h1, List.getD_eq_getElem?_getD, List.getElem?_eq_getElem h2]
    rfl
  · rw [List.getElem?_eq_none (by simpa using h)]
    rcases Nat.lt_or_ge i as.length with h1 | h1
    · rw [List.getElem?_eq_none (show bs.length ≤ i by omega)]
      cases as[i]? <;> rfl
    · rw [List.getElem?_eq_none h1]; rfl
theorem k_lc_zs {as bs : List Nat} {g : TG} {te : TE} {vs : List Nat} {W' : WX} (f : Nat → Nat → V) (hn : as.length ≤ 1000000)
    (hs : ∀ (c d : Nat) w' T (R : VK), c ∈ as → d ∈ bs → Ex [] w w' → w'.H T = some (.tup [.str (S [c]), .str (S [d])]) → (∀ w2, Ex [] w' w2 → R (f c d) w2.H) → g (.ref T) (wipe σ vs) w'.H (KMk1 te vs σ R))
    (hd : ∀ w' p, Ex [] w w' → w.H p = none → Op w' p (.lst (List.zipWith f as bs)) → Q (.ref p) w'.H) : KLc g (Tto.den v .no W') te vs σ Q (Izs (S as) (S bs)) w.H := fun D hD => by
  have sa : (S as).cps.size = as.length := by simp [S]
  have sb : (S bs).cps.size = bs.length := by simp [S]
  refine ⟨fun i k H => k = min as.length bs.length - i ∧ i ≤ min as.length bs.length ∧ KIw (InvV w D (fun j => f (as.getD j 0) (bs.getD j 0)) i) H, ⟨min as.length bs.length, by simp, Nat.zero_le _, w.put D (.lst []), rfl, ex_new hD, op_new hD⟩, ?_⟩
  rintro i k H ⟨rfl, hi, w', rfl, p⟩
  by_cases hlt : i < min as.length bs.length
  · refine .inr ⟨by show i < min (S as).cps.size (S bs).cps.size; rw [sa, sb]; exact hlt, KIw (InvV w D (fun j => f (as.getD j 0) (bs.getD j 0)) (i + 1)), fun H' p' => ⟨min as.length bs.length - (i + 1), by omega, rfl, hlt, p'⟩, fun z H' y => ?_⟩
    obtain ⟨T, c, d, rfl, hT, rfl, hc, hd'⟩ := y
    have hc : as[i]? = some c := by simpa [S] using hc
    have hd' : bs[i]? = some d := by simpa [S] using hd'
    have e1 : as.getD i 0 = c := by rw [List.getD_eq_getElem?_getD, hc]; rfl
    have e2 : bs.getD i 0 = d := by rw [List.getD_eq_getElem?_getD, hd']; rfl
    have eT : Ex [] w' (w'.put T (.tup [.str ⟨#[c]⟩, .str ⟨#[d]⟩])) := ex_new hT
    refine hs c d (w'.put T _) T (KAp D (InvV w D (fun j => f (as.getD j 0) (bs.getD j 0)) (i + 1))) (List.mem_of_getElem? hc) (List.mem_of_getElem? hd') (p.1.t0 eT) upd_same fun w2 e2' => ?_
    have := invV_next (f := fun j => f (as.getD j 0) (bs.getD j 0)) hD p (eT.t0 e2') (by omega)
    rwa [e1, e2] at this
  · have e : i = min as.length bs.length := by omega
    subst e
    refine .inl ⟨by show min (S as).cps.size (S bs).cps.size ≤ _; rw [sa, sb]; exact Nat.le_refl _, hd w' D p.1 hD ?_⟩
    have o := p.2
    rwa [zip_map] at o
/-- join of an open list -/
theorem join_S (ys : List (List Nat)) : Txt.join (S []) (ys.map S) = S ys.flatten := by
  have hj : ∀ l : List (List Nat), TL.joinL [] l = l.flatten := by
    intro l
    induction l with
    | nil => rfl
    | cons a r ih =>
      cases r with
      | nil => simp [TL.joinL]
      | cons b r2 => simp only [TL.joinL] at ih ⊢; simpa using ih
  exact (SX.join_S [] ys).trans (congrArg S (hj ys))
theorem m_join {a : Addr} {ys : List (List Nat)} (e : w.H a = some (.lst (ys.map fun y => .str (S y)))) (hl : (ys.map (·.length)).sum ≤ 16777216) (h : Q (.str (S ys.flatten)) w.H) : KM2 K .join (.str (S [])) Q [.ref a] w.H := by
  refine ⟨ys.map S, .inl (sqL (by rw [List.map_map]; exact e)), ?_, by rw [join_S]; exact h⟩
  rw [List.map_map]
  have : (S []).length = 0 := rfl
  rw [this, Nat.mul_zero, Nat.add_zero]
  refine Nat.le_trans (Nat.le_of_eq ?_) hl
  exact congrArg List.sum (List.map_congr_left fun y _ => S_len y)
theorem m_find {a b : Str} (h : Q (.int (Txt.find a b)) H) : KM2 K .find (.str a) Q [.str b] H := h
theorem flat1 : ∀ cs : List Nat, (cs.map fun c => [c]).flatten = cs
  | [] => rfl
  | c :: r => by rw [List.map_cons, List.flatten_cons, flat1 r]; rfl
theorem m_join1 {a : Addr} {cs : List Nat} (e : w.H a = some (.lst (cs.map fun c => .str (S [c])))) (hl : cs.length ≤ 16777216) (h : Q (.str (S cs)) w.H) : KM2 K .join (.str (S [])) Q [.ref a] w.H := by
  refine m_join (ys := cs.map fun c => [c]) (by rw [List.map_map]; exact e) ?_ (by rw [flat1]; exact h)
  rw [List.map_map]
  have : ∀ l : List Nat, (l.map ((fun x : List Nat => x.length) ∘ fun c => [c])).sum = l.length := by
    intro l
    induction l with
    | nil => rfl
    | cons a r ih => rw [List.map_cons, List.sum_cons, ih, List.length_cons]; simp; omega
  rw [this]
  exact hl
def KRvL (K : PySem.W.Frag) (Q : VK) : VK := fun x H1 => ∃ (a : Addr) (xs : List V), x = .ref a ∧ SqL K H1 a xs ∧ ∀ p, H1 p = none → Q (.ref p) (upd H1 p (.lst xs.reverse))
theorem k_revO {a : Addr} {xs : List V} (e : w.H a = some (.lst xs)) (h : ∀ w' p, Ex [] w w' → w.H p = none → Op w' p (.lst xs.reverse) → Q (.ref p) w'.H) : KRvL K Q (.ref a) w.H :=
  ⟨a, xs, rfl, sqL e, fun p hp => h (w.put p _) p (ex_new hp) hp (op_new hp)⟩
theorem e_rev {a : Xp} (h : a.den v W σ H (KRvL v.K Q)) : Xp.den v (.rev a) W σ H Q := by
  exact h
theorem tyS {s : Str} {P : Prop} (h : P) : tyV K "str" (.str s) H ∧ P := ⟨rfl, h⟩
theorem k_mS {m : Bm} {es : Xps} {s : Str} (hm : m.ty = "str") (h : es.den v W σ H (KM2 v.K m (.str s) Q)) : KM1 v m es W σ Q (.str s) H := ⟨hm, h⟩
end
end DI

/-! DI, part 18: more rules. -/
namespace DI
open L2
open PySem.Spec
open PyProof.Rows hiding St
open PySem

section
variable {v : Ev} {D : Nat → Df} {n : Nat} {W : WX} {σ : St} {H : Hp} {Q : VK} {nx bk ct : St → Hp → Prop} {rt : VK} {w : Wd} {K : PySem.W.Frag} {P : Bool → Hp → Prop}
/-! is True, is False of what is known -/
theorem c_isTT (h : P true H) : KC2 K .Is (.bl true) P (.bl true) H := .inr ⟨true, true, rfl, rfl, by simpa using h⟩
theorem c_isFF (h : P true H) : KC2 K .Is (.bl false) P (.bl false) H := .inr ⟨false, false, rfl, rfl, by simpa using h⟩
theorem c_isnTT (h : P false H) : KC2 K .IsNot (.bl true) P (.bl true) H := .inr ⟨true, true, rfl, rfl, by simpa using h⟩
theorem c_isnFF (h : P false H) : KC2 K .IsNot (.bl false) P (.bl false) H := .inr ⟨false, false, rfl, rfl, by simpa using h⟩
/-- int of a digit -/
theorem f_ints {s : List Nat} {i : Int} (e : PySem.intText? (S s) = some i) (hl : s.length ≤ 640) (h : Q (.int i) H) : KBf K .int Q [.str (S s)] H := ⟨i, e, by rw [S_len]; exact hl, h⟩
theorem f_int0 (h : Q (.int 0) H) : KBf K .int Q [.str (S [48])] H := f_ints (by decide +kernel) (by decide) h
theorem f_int1 (h : Q (.int 1) H) : KBf K .int Q [.str (S [49])] H := f_ints (by decide +kernel) (by decide) h
/-! the same on both sides -/
theorem c_eqR {i : Int} (h : P true H) : KC2 K .Eq (.int i) P (.int i) H := c_eq (by simpa using h)
theorem c_neR {i : Int} (h : P false H) : KC2 K .NotEq (.int i) P (.int i) H := c_ne (by simpa using h)
theorem c_eqsR {a : Str} (h : P true H) : KC2 K .Eq (.str a) P (.str a) H := c_eqs (by simpa using h)
theorem c_nesR {a : Str} (h : P false H) : KC2 K .NotEq (.str a) P (.str a) H := c_nes (by simpa using h)
/-! range of two -/
def KR2b (x : V) (R : It → Hp → Prop) : VK := fun y H => ∃ i j : Int, [x, y] = [.int i, .int j] ∧ (-(2 ^ 62) ≤ i ∧ i < 2 ^ 62 ∧ -(2 ^ 62) ≤ j ∧ j < 2 ^ 62) ∧ R (Itr i (j - i).toNat) H
def KR2a (v : Ev) (b : Xp) (W : WX) (σ : St) (R : It → Hp → Prop) : VK := fun x H => b.den v W σ H (KR2b x R)
theorem q_rng2a {a b : Xp} {R : It → Hp → Prop} (h : a.den v W σ H (KR2a v b W σ R)) : Sq.den v (.rng2 a b) W σ H R := h
theorem k_r2a {b : Xp} {x : V} {R : It → Hp → Prop} (h : b.den v W σ H (KR2b x R)) : KR2a v b W σ R x H := h
theorem k_r2b {i j : Int} {R : It → Hp → Prop} (c : -(2 ^ 62) ≤ i ∧ i < 2 ^ 62 ∧ -(2 ^ 62) ≤ j ∧ j < 2 ^ 62) (h : R (Itr i (j - i).toNat) H) : KR2b (.int i) R (.int j) H := ⟨i, j, rfl, c, h⟩
end
end DI

/-! DI, part 19: rules for raise, try, displays, chains of three. -/
namespace DI
open L2
open PySem.Spec
open PyProof.Rows hiding St
open PySem

/-- the text of an __init__ that keeps one field -/
def supOf : List Stmt → Option SupTxt
  | [.Expr (.Call (.Attribute (.Call (.Name s p0) [] [] p1) i p2) [.Constant (.str m) j p3] [] p4) p5, .Assign [.Attribute (.Name se q1) f q2] (.Name x q3) q4] =>
    if s = "super" ∧ i = "__init__" ∧ se = "self" then some ⟨m, x, f, j, p0, p1, p2, p3, p4, p5, q1, q2, q3, q4, q4⟩ else none
  | _ => none
theorem supOf_body {b : List Stmt} {T : SupTxt} (h : supOf b = some T) : b = T.body := by
  unfold supOf at h
  split at h
  · split at h
    · rename_i e
      obtain ⟨rfl, rfl, rfl⟩ := e
      cases h
      rfl
    · cases h
  · cases h
/-- the checks of the trees -/
def supB (params : Arguments) (scope : Scope) (T : SupTxt) (f : Str) : Bool :=
  decide (T.f = f) && decide ((params.posonlyargs ++ params.args).head?.map (·.arg) = some ("self" : Str)) && (T.p2.endLine == T.p4.line) && decide (T.x ≠ "self") && !(T.x == ("__debug__" : Str)) &&
  decide (scope.names.lookup ("super" : Str) = some .globalImplicit) && decide (scope.names.lookup ("__class__" : Str) = some .free) && decide (scope.names.lookup ("self" : Str) = some .local) && decide (scope.names.lookup T.x = some .local) &&
  (scope.names.all fun y => !decide (y.2 = .cell)) && !scope.isCoroutine && !scope.isGenerator && decide (scope.kind = .function)
theorem exCls_mk {P : Program} {K : PySem.W.Frag} {C R fI cc cda : Addr} {f qual : Str} {st : Stmt} {T : SupTxt} {nm q : Str} {N : Addr} {bs : List Value} {sn : List Str} {sub : List Value} {ab : Bool} {col : Option Bool} {dd : Option Addr} {m0 m1 m2 m3 m5 : Option Value}
    {kV doc pm ct oc ccl cl : Value} {an od cdd cld : Option Addr} {osl ccs csl : Array (Option Value)} {vs : Array Value} {file : Str} {tf : Tok}
    (xL : K.lookup C = some (excClassObj nm q C N bs [.ref R, .type "ValueError", .type "Exception", .type "BaseException", .type "object"] true sn sub ab col dd m0 m1 m2 m3 m5 "ValueError.__new__"))
    (sa : PySem.W.findIn K (.ref C) "__setattr__" = some (some (.builtin "object.__setattr__"))) (ga : PySem.W.findIn K (.ref C) "__getattribute__" = some (some (.builtin "BaseException.__getattribute__"))) (gg : PySem.W.findIn K (.ref C) "__getattr__" = some none) (nb : PySem.W.findIn K (.ref C) f = some none)
    (eC : PySem.W.subIn K (.ref C) (.type "BaseException") = some true) (tC : PySem.W.typeIn K (.ref C) = some (.type "type")) (kC : PySem.W.keepIn K (.ref C) = true) (hC : PySem.W.hasDictIn K C = true)
    (a1 : PySem.W.findIn K (.ref C) "__init__" = some (some (.ref fI))) (t1 : PySem.W.typeIn K (.ref fI) = some (.type "function"))
    (l1 : K.lookup fI = some ⟨oc, od, .func (PySem.W.ksFn "__init__" qual (defArgs st) (defBody st) (defScope st) .none kV doc pm an (.ref cda) ct cc), osl⟩) (c1 : PySem.W.codeIn K (.ref cda) qual = true)
    (lc : K.lookup cda = some ⟨ccl, cdd, .fields vs, ccs⟩) (hv : vs[2]? = some (.str file tf)) (lx : K.lookup cc = some ⟨cl, cld, .cell (some (.ref C)), csl⟩)
    (zs : PySem.W.nsIn K mainGlobals "super" = some none) (si : PySem.W.ks_superIn K C C "__init__" = some (some (.builtin "ValueError.__init__"))) (mr : PySem.W.mroIn K C (.ref C) = some true) (ve : PySem.W.subIn K (.ref C) (.type "ValueError") = some true)
    (th : PySem.W.nsIn K cStatics "thirdparty.any" = some none) (ha : PySem.W.findIn K (.ref C) "__class__" = some (some (.builtin "object.__class__"))) (hn : PySem.W.specialIn K (.builtin "object.__class__") "__get__" = some (some (.builtin "getset_descriptor.__get__")))
    (ht : PySem.W.takesIn K (.builtin "object.__class__") = some true) (hm : PySem.W.mroIn K C (.type "object") = some true)
    (hf : ((P.main.file : Str) == file) = true) (htop : (P.main.scope.names.lookup ("super" : Str)).isSome = false) (hT : supOf (defBody st) = some T) (hB : supB (defArgs st) (defScope st) T f = true)
    (hb : ∀ (kV doc pm : Value) (an : Option Addr) (cdv ct : Value) (cc : Addr) (a b : Value), bindArgs (PySem.W.ksFn "__init__" qual (defArgs st) (defBody st) (defScope st) .none kV doc pm an cdv ct cc) ⟨[a, b], []⟩ = pure [(("self" : Str), a), (T.x, b)]) : ExCls P K C f ∧ ExcC K C := by
  have eb := supOf_body hT
  unfold supB at hB
  simp only [Bool.and_eq_true, decide_eq_true_eq, Bool.not_eq_true', List.all_eq_true, decide_eq_false_iff_not] at hB
  obtain ⟨⟨⟨⟨⟨⟨⟨⟨⟨⟨⟨⟨b1, b2⟩, b3⟩, b4⟩, b5⟩, b6⟩, b7⟩, b8⟩, b9⟩, b10⟩, b11⟩, b12⟩, b13⟩ := hB
  obtain ⟨ar, har, hse⟩ := Option.map_eq_some_iff.mp b2
  rw [eb] at l1 hb
  exact ⟨⟨⟨⟨_, _, _, _, _, _, _, _, _, _, _, _, _, _, _, xL, rfl⟩, sa, eC, tC, kC⟩, ⟨ga, gg, eC, hC⟩, nb,
    ⟨fI, cc, cda, T, qual, _, _, .none, kV, doc, pm, ct, oc, ccl, cl, an, od, cdd, cld, osl, ccs, csl, vs, file, tf, ar, a1, t1, b1, l1, c1, lc, hv, hf, lx, zs, htop, si, mr, ve, th, har, hse, b3, b4, b5, b6, b7, b8, b9, fun y hy => b10 y hy, b11, b12, b13, hb, rfl⟩⟩,
    ⟨ga, gg, eC, hC, ha, hn, ht, hm⟩⟩
/-- super's __init__ is that of the base -/
theorem superIn_of {K : PySem.W.Frag} {C R : Addr} {nm q : Str} {N : Addr} {bs : List Value} {sn : List Str} {sub : List Value} {ab : Bool} {col : Option Bool} {dd : Option Addr} {m0 m1 m2 m3 m5 : Option Value} {nm' q' : Str} {N' : Addr} {bs' : List Value} {sn' : List Str} {sub' : List Value} {ab' : Bool} {col' : Option Bool} {dd' : Option Addr} {m0' m1' m2' m3' m5' : Option Value} {bm : List Value}
    (xL : K.lookup C = some (excClassObj nm q C N bs (.ref R :: bm) true sn sub ab col dd m0 m1 m2 m3 m5 "ValueError.__new__")) (xR : K.lookup R = some (excClassObj nm' q' R N' bs' bm true sn' sub' ab' col' dd' m0' m1' m2' m3' m5' "ValueError.__new__"))
    (fR : PySem.W.findIn K (.ref R) "__init__" = some (some (.builtin "ValueError.__init__"))) : PySem.W.ks_superIn K C C "__init__" = some (some (.builtin "ValueError.__init__")) := by
  have hC : PySem.W.clsIn K C = some { name := nm, bases := bs, mro := .ref C :: .ref R :: bm, ns := N, qualname := q, hasDict := true, slotNames := sn, subclasses := sub, abstract := ab, collection := col, hasDel := false } := by unfold PySem.W.clsIn; rw [xL] <;> rfl
  unfold PySem.W.ks_superIn
  rw [hC]
  have e : ((Value.ref C :: .ref R :: bm).dropWhile (· != .ref C)).drop 1 = .ref R :: bm := by simp [List.dropWhile_cons]
  show PySem.W.alongIn K "__init__" (((Value.ref C :: .ref R :: bm).dropWhile (· != .ref C)).drop 1) = _
  rw [e]
  unfold PySem.W.findIn at fR
  dsimp only at fR
  rw [xR] at fR
  exact fR
/-- who is a kind of whom -/
theorem exm_of {K : PySem.W.Frag} {D C : Addr} {b : Bool} (h1 : PySem.W.subIn K (.ref C) (.type "BaseException") = some true) (hd : PySem.W.hasDictIn K C = true) (ht : PySem.W.typeIn K (.ref C) = some (.type "type")) (h : PySem.W.subIn K (.ref D) (.ref C) = some b) : PySem.W.exmOne K (.ref D) (.ref C) = some b :=
  PySem.W.exm_ref h1 hd ht h
theorem kit_of {K : PySem.W.Frag} {D C : Addr} {b : Bool} (hc : PySem.W.isClsIn K C = true) (ht : PySem.W.typeIn K (.ref C) = some (.type "type")) (h : PySem.W.subIn K (.ref D) (.ref C) = some b) (h0 : PySem.W.subIn K (.ref D) (.ref D) = some true) : PySem.W.kitOne K (.ref D) (.ref C) = some b := by
  unfold PySem.W.kitOne
  by_cases e : D = C
  · subst e
    rw [h0] at h
    rw [if_pos (by simp), ← h]
  · rw [if_neg (by simpa using e)]
    have hc' : (PySem.W.clsIn K C).isSome = true := hc
    have e2 : ((PySem.W.clsIn K C).isSome && PySem.W.typeIn K (.ref C) == some (.type "type")) = true := by rw [hc', ht] <;> rfl
    show PySem.W.kitCls K (.ref D) (.ref C) = some b
    unfold PySem.W.kitCls
    first
    | (show (if ((PySem.W.clsIn K C).isSome && PySem.W.typeIn K (.ref C) == some (.type "type")) = true then PySem.W.subIn K (.ref D) (.ref C) else none) = some b; rw [if_pos e2]; exact h)
    | simp [hc', ht, h]
theorem kit_VE {K : PySem.W.Frag} {D : Addr} (h : PySem.W.subIn K (.ref D) (.type "ValueError") = some true) : PySem.W.kitOne K (.ref D) (.type "ValueError") = some true := by
  unfold PySem.W.kitOne
  rw [if_neg (by simp)]
  unfold PySem.W.kitCls
  first
  | exact h
  | (rw [if_pos (by decide +kernel)]; exact h)
  | simp [h]
/-- what a law must know of its exception classes: L the raised ones with their fields, sub who is a kind of whom, B the others that are named -/
structure XT (v : Ev) (L : List (Nat × Str)) (B : List Nat) (sub : Nat → Nat → Bool) : Prop where
  xs : v.exs = L
  em : ∀ q ∈ L, ∀ c ∈ L.map (·.1) ++ B, PySem.W.exmOne v.K (.ref (v.cls q.1)) (.ref (v.cls c)) = some (sub q.1 c)
  ki : ∀ q ∈ L, ∀ c ∈ L.map (·.1) ++ B, PySem.W.kitOne v.K (.ref (v.cls q.1)) (.ref (v.cls c)) = some (sub q.1 c)
  kv : ∀ q ∈ L, PySem.W.kitOne v.K (.ref (v.cls q.1)) (.type "ValueError") = some true

section
variable {v : Ev} {D : Nat → Df} {n : Nat} {W : WX} {σ : St} {H : Hp} {Q : VK} {nx bk ct : St → Hp → Prop} {rt : VK} {w : Wd} {K : PySem.W.Frag} {P : Bool → Hp → Prop}
/-! raise -/
def KRa (v : Ev) (C : Nat) (f : Str) (W : WX) (σ : St) : List V → Hp → Prop := fun vs H1 => ∃ y, vs = [y] ∧ ∀ dx, H1 dx = none → W (.ref (v.cls C)) (some dx) σ (upd H1 dx (.xd [(f, y)]))
theorem r_rai {C : Nat} {f : Str} {es : Xps} (h : es.den v W σ H (KRa v C f W σ)) : Sm.den v (.rai C f es) W ⟨nx, rt, bk, ct⟩ σ H := h
theorem k_ra {C : Nat} {f : Str} {y : V} (h : ∀ w' dx, Ex [] w w' → w.H dx = none → Op w' dx (.xd [(f, y)]) → W (.ref (v.cls C)) (some dx) σ w'.H) : KRa v C f W σ [y] w.H :=
  ⟨y, rfl, fun dx hd => h (w.put dx _) dx (ex_new hd) hd (op_new hd)⟩
/-! try -/
/-- the code of an except suite, in the place of a call's way out -/
def KTyA (v : Ev) (C i : Nat) (s : Sms) (W : WX) (D : Ends) : WX := wAs v.K (.ref (v.cls C)) i (fun a c d => s.den { v with ex := some (a, c, d) } fun _ _ _ _ => False) W D
def KTyO (v : Ev) (C : Nat) (s : Sms) (W : WX) (D : Ends) : WX := wOnly v.K (.ref (v.cls C)) (fun a c d => s.den { v with ex := some (a, c, d) } fun _ _ _ _ => False) W D
theorem r_tryA {b s : Sms} {C i : Nat} (h : b.den v (KTyA v C i s W ⟨nx, rt, bk, ct⟩) ⟨nx, rt, bk, ct⟩ σ H) : Sm.den v (.tryA b C i s) W ⟨nx, rt, bk, ct⟩ σ H := h
theorem r_tryO {b s : Sms} {C : Nat} (h : b.den v (KTyO v C s W ⟨nx, rt, bk, ct⟩) ⟨nx, rt, bk, ct⟩ σ H) : Sm.den v (.tryO b C s) W ⟨nx, rt, bk, ct⟩ σ H := h
def KUn (i : Nat) (P : St → Hp → Prop) : St → Hp → Prop := fun σ' H' => P (σ'.set i none) H'
theorem k_un {i : Nat} {P : St → Hp → Prop} (h : P (σ.set i none) H) : KUn i P σ H := h
theorem k_tyA {C i j : Nat} {d : Option Addr} {s : Sms} (he : PySem.W.exmOne v.K (.ref (v.cls j)) (.ref (v.cls C)) = some true)
    (h : ∀ a, H a = none → s.den { v with ex := some (a, .ref (v.cls j), d) } (fun _ _ _ _ => False) ⟨KUn i nx, rt, KUn i bk, KUn i ct⟩ (σ.set i (some (.ref a))) H) : KTyA v C i s W ⟨nx, rt, bk, ct⟩ (.ref (v.cls j)) d σ H :=
  ⟨true, he, fun _ a ha => h a ha, fun z => by cases z⟩
theorem k_tyAn {C i j : Nat} {d : Option Addr} {s : Sms} {E : Ends} (he : PySem.W.exmOne v.K (.ref (v.cls j)) (.ref (v.cls C)) = some false) (h : W (.ref (v.cls j)) d σ H) : KTyA v C i s W E (.ref (v.cls j)) d σ H :=
  ⟨false, he, fun z => (by cases z), fun _ => h⟩
theorem k_tyO {C j : Nat} {d : Option Addr} {s : Sms} (he : PySem.W.exmOne v.K (.ref (v.cls j)) (.ref (v.cls C)) = some true)
    (h : ∀ a, H a = none → s.den { v with ex := some (a, .ref (v.cls j), d) } (fun _ _ _ _ => False) ⟨nx, rt, bk, ct⟩ σ H) : KTyO v C s W ⟨nx, rt, bk, ct⟩ (.ref (v.cls j)) d σ H :=
  ⟨true, he, fun _ a ha => h a ha, fun z => by cases z⟩
theorem k_tyOn {C j : Nat} {d : Option Addr} {s : Sms} {E : Ends} (he : PySem.W.exmOne v.K (.ref (v.cls j)) (.ref (v.cls C)) = some false) (h : W (.ref (v.cls j)) d σ H) : KTyO v C s W E (.ref (v.cls j)) d σ H :=
  ⟨false, he, fun z => (by cases z), fun _ => h⟩
/-- several clauses without a name -/
def KTyM (v : Ev) (hs : Hds) (W : WX) (D : Ends) : WX := wMany v.K W D (hs.den v)
theorem r_tryM {b : Sms} {hs : Hds} (h : b.den v (KTyM v hs W ⟨nx, rt, bk, ct⟩) ⟨nx, rt, bk, ct⟩ σ H) : Sm.den v (.tryM b hs) W ⟨nx, rt, bk, ct⟩ σ H := h
theorem k_tyM0 {j : Nat} {d : Option Addr} {E : Ends} (h : W (.ref (v.cls j)) d σ H) : KTyM v .nil W E (.ref (v.cls j)) d σ H := h
theorem k_tyM {C j : Nat} {d : Option Addr} {s : Sms} {r : Hds} (he : PySem.W.exmOne v.K (.ref (v.cls j)) (.ref (v.cls C)) = some true)
    (h : ∀ a, H a = none → s.den { v with ex := some (a, .ref (v.cls j), d) } (fun _ _ _ _ => False) ⟨nx, rt, bk, ct⟩ σ H) : KTyM v (.cons C s r) W ⟨nx, rt, bk, ct⟩ (.ref (v.cls j)) d σ H :=
  ⟨true, he, fun _ a ha => h a ha, fun z => by cases z⟩
theorem k_tyMn {C j : Nat} {d : Option Addr} {s : Sms} {r : Hds} {E : Ends} (he : PySem.W.exmOne v.K (.ref (v.cls j)) (.ref (v.cls C)) = some false) (h : KTyM v r W E (.ref (v.cls j)) d σ H) : KTyM v (.cons C s r) W E (.ref (v.cls j)) d σ H :=
  ⟨false, he, fun z => (by cases z), fun _ => h⟩
/-- the suite's exception: its field, its kind -/
theorem x_ef {u : Ev} {a dd : Addr} {i j : Nat} {f : Str} {fs : List (Str × V)} {z : V} (hx : u.ex = some (a, .ref (u.cls j), some dd)) (hj : (j, f) ∈ u.exs) (hs : σ[i]? = some (some (.ref a))) (hd : H dd = some (.xd fs)) (hl : fs.lookup f = some z) (h : Q z H) : Xp.den u (.ef i f) W σ H Q :=
  ⟨a, dd, j, fs, z, hx, hj, hs, hd, hl, h⟩
theorem x_ei {u : Ev} {a dd : Addr} {i j C : Nat} {f : Str} {fs : List (Str × V)} {b : Bool} (hx : u.ex = some (a, .ref (u.cls j), some dd)) (hj : (j, f) ∈ u.exs) (hs : σ[i]? = some (some (.ref a))) (hd : H dd = some (.xd fs)) (hk : PySem.W.kitOne u.K (.ref (u.cls j)) (.ref (u.cls C)) = some b) (h : Q (.bl b) H) : Xp.den u (.ei i C) W σ H Q :=
  ⟨a, dd, j, f, fs, b, hx, hj, hs, hd, hk, h⟩
theorem x_eib {u : Ev} {a dd : Addr} {i j : Nat} {n : String} {f : Str} {fs : List (Str × V)} {b : Bool} (hx : u.ex = some (a, .ref (u.cls j), some dd)) (hj : (j, f) ∈ u.exs) (hs : σ[i]? = some (some (.ref a))) (hd : H dd = some (.xd fs)) (hk : PySem.W.kitOne u.K (.ref (u.cls j)) (.type n) = some b) (h : Q (.bl b) H) : Xp.den u (.eib i n) W σ H Q :=
  ⟨a, dd, j, f, fs, b, hx, hj, hs, hd, hk, h⟩
/-! chains of three -/
def KG1 (v : Ev) (o1 o2 o3 : CmpOp) (b c d : Xp) (W : WX) (σ : St) (P : Bool → Hp → Prop) : VK := fun x H1 => b.den v W σ H1 fun y H2 => rCmpB v.K o1 x y H2 fun k =>
  if k = true then c.den v W σ H2 fun z H3 => rCmpB v.K o2 y z H3 fun k' => if k' = true then d.den v W σ H3 fun u H4 => rCmpB v.K o3 z u H4 fun k2 => P k2 H4 else P false H3 else P false H2
def KG2 (v : Ev) (o1 o2 o3 : CmpOp) (c d : Xp) (W : WX) (σ : St) (P : Bool → Hp → Prop) (x : V) : VK := fun y H2 => rCmpB v.K o1 x y H2 fun k =>
  if k = true then c.den v W σ H2 fun z H3 => rCmpB v.K o2 y z H3 fun k' => if k' = true then d.den v W σ H3 fun u H4 => rCmpB v.K o3 z u H4 fun k2 => P k2 H4 else P false H3 else P false H2
def KG3 (v : Ev) (o2 o3 : CmpOp) (c d : Xp) (W : WX) (σ : St) (P : Bool → Hp → Prop) (y : V) : Bool → Hp → Prop := fun k H2 =>
  if k = true then c.den v W σ H2 (KH2 v o2 o3 d W σ P y) else P false H2
theorem e_chn3 {o1 o2 o3 : CmpOp} {a b c d : Xp} (h : a.den v W σ H (KG1 v o1 o2 o3 b c d W σ (KBl Q))) : Xp.den v (.chn3 o1 o2 o3 a b c d) W σ H Q := h
theorem t_chn3 {o1 o2 o3 : CmpOp} {a b c d : Xp} (h : a.den v W σ H (KG1 v o1 o2 o3 b c d W σ P)) : Tt.den v (.chn3 o1 o2 o3 a b c d) W σ H P := h
theorem k_g1 {o1 o2 o3 : CmpOp} {b c d : Xp} {x : V} (h : b.den v W σ H (KG2 v o1 o2 o3 c d W σ P x)) : KG1 v o1 o2 o3 b c d W σ P x H := h
theorem k_g2 {o1 o2 o3 : CmpOp} {c d : Xp} {x y : V} (h : KC2 v.K o1 x (KG3 v o2 o3 c d W σ P y) y H) : KG2 v o1 o2 o3 c d W σ P x y H := h
theorem k_g3 {o2 o3 : CmpOp} {c d : Xp} {y : V} {k : Bool} (ht : k = true → c.den v W σ H (KH2 v o2 o3 d W σ P y)) (hf : k = false → P false H) : KG3 v o2 o3 c d W σ P y k H := by
  cases k with
  | true => exact ht rfl
  | false => exact hf rfl
/-! dicts: displays, get, del -/
def KDi (Q : VK) (ps : List (TE × TE)) (σ : St) (H : Hp) : Prop := ∀ p, H p = none → tPairs ps σ (upd H p (.dK [])) fun qs H2 => H2 p = some (.dK []) ∧ ∃ kvs : List (Key × V), qs = kvs.map (fun kv => (kV kv.1, kv.2)) ∧ kvs.length ≤ 15 ∧ Q (.ref p) (upd H2 p (.dK (mergeK [] kvs)))
def KPs (ps : List (TE × TE)) (σ : St) (R : List (V × V) → Hp → Prop) (H : Hp) : Prop := tPairs ps σ H R
def KPk (tv : TE) (ps : List (TE × TE)) (σ : St) (R : List (V × V) → Hp → Prop) : VK := fun x H1 => tv σ H1 fun y H2 => tPairs ps σ H2 fun qs H3 => R ((x, y) :: qs) H3
def KPv (x : V) (ps : List (TE × TE)) (σ : St) (R : List (V × V) → Hp → Prop) : VK := fun y H2 => KPs ps σ (fun qs H3 => R ((x, y) :: qs) H3) H2
theorem e_dct {ks vs : Xps} (h : KDi Q ((ks.dens v W).zip (vs.dens v W)) σ H) : Xp.den v (.dct ks vs) W σ H Q := h
theorem k_di {ps : List (TE × TE)} (h : ∀ w' p, Ex [] w w' → w.H p = none → Op w' p (.dK []) → KPs ps σ (fun qs H2 => H2 p = some (.dK []) ∧ ∃ kvs : List (Key × V), qs = kvs.map (fun kv => (kV kv.1, kv.2)) ∧ kvs.length ≤ 15 ∧ Q (.ref p) (upd H2 p (.dK (mergeK [] kvs)))) w'.H) : KDi Q ps σ w.H :=
  fun p hp => h (w.put p (.dK [])) p (ex_new hp) hp (op_new hp)
theorem k_ps0 {R : List (V × V) → Hp → Prop} (h : R [] H) : KPs [] σ R H := h
theorem k_ps1 {k x : Xp} {ks vs : Xps} {R : List (V × V) → Hp → Prop} (h : k.den v W σ H (KPk (x.den v W) ((ks.dens v W).zip (vs.dens v W)) σ R)) : KPs (((Xps.cons k ks).dens v W).zip ((Xps.cons x vs).dens v W)) σ R H := h
theorem k_pk {x : Xp} {ps : List (TE × TE)} {y : V} {R : List (V × V) → Hp → Prop} (h : x.den v W σ H (KPv y ps σ R)) : KPk (x.den v W) ps σ R y H := h
theorem k_pv {ps : List (TE × TE)} {x y : V} {R : List (V × V) → Hp → Prop} (h : KPs ps σ (fun qs H3 => R ((x, y) :: qs) H3) H) : KPv x ps σ R y H := h
def KGe1 (v : Ev) (k x : Xp) (W : WX) (σ : St) (Q : VK) : VK := fun d H1 => ∃ a, d = .ref a ∧ IsD H1 a ∧ k.den v W σ H1 fun y H2 => x.den v W σ H2 fun z H3 => ∃ o, DGet H3 a y o ∧ Q (o.getD z) H3
def KGe2 (v : Ev) (x : Xp) (W : WX) (σ : St) (a : Addr) (Q : VK) : VK := fun y H2 => x.den v W σ H2 fun z H3 => ∃ o, DGet H3 a y o ∧ Q (o.getD z) H3
def KGe3 (a : Addr) (y : V) (Q : VK) : VK := fun z H3 => ∃ o, DGet H3 a y o ∧ Q (o.getD z) H3
theorem e_dget {d k x : Xp} (h : d.den v W σ H (KGe1 v k x W σ Q)) : Xp.den v (.dget d k x) W σ H Q := h
theorem k_ge1 {k x : Xp} {a : Addr} {kvs : List (Key × V)} (hd : H a = some (.dK kvs)) (h : k.den v W σ H (KGe2 v x W σ a Q)) : KGe1 v k x W σ Q (.ref a) H := ⟨a, rfl, .inl ⟨_, .inl hd⟩, h⟩
theorem k_ge2 {x : Xp} {a : Addr} {y : V} (h : x.den v W σ H (KGe3 a y Q)) : KGe2 v x W σ a Q y H := h
theorem k_ge3 {a : Addr} {kvs : List (Key × V)} {k : Key} {y z : V} (hd : H a = some (.dK kvs)) (hy : y = kV k) (h : Q ((valV kvs k).getD z) H) : KGe3 a y Q z H := by subst hy; exact ⟨_, DGet.k hd, h⟩
def KDl1 (v : Ev) (k : Xp) (W : WX) (σ : St) (P : St → Hp → Prop) : VK := fun x H1 => k.den v W σ H1 fun y H2 => ∃ a kvs k, x = .ref a ∧ H2 a = some (.dK kvs) ∧ y = kV k ∧ (valV kvs k).isSome = true ∧ P σ (upd H2 a (.dK (dropK kvs k)))
def KDl2 (σ : St) (P : St → Hp → Prop) (x : V) : VK := fun y H2 => ∃ a kvs k, x = .ref a ∧ H2 a = some (.dK kvs) ∧ y = kV k ∧ (valV kvs k).isSome = true ∧ P σ (upd H2 a (.dK (dropK kvs k)))
theorem r_ddel {d k : Xp} (h : d.den v W σ H (KDl1 v k W σ nx)) : Sm.den v (.ddel d k) W ⟨nx, rt, bk, ct⟩ σ H := h
theorem k_dl1 {k : Xp} {x : V} {P : St → Hp → Prop} (h : k.den v W σ H (KDl2 σ P x)) : KDl1 v k W σ P x H := h
theorem k_dl2 {a : Addr} {kvs : List (Key × V)} {k : Key} {y : V} {P : St → Hp → Prop} (o : Op w a (.dK kvs)) (hy : y = kV k) (hs : (valV kvs k).isSome = true) (h : ∀ w', Ex [a] w w' → Op w' a (.dK (dropK kvs k)) → P σ w'.H) : KDl2 σ P (.ref a) y w.H :=
  ⟨a, kvs, k, rfl, o.h, hy, hs, h (w.put a _) (ex_set o) (op_set o)⟩
/-! list(range(..)), reversed(range(..)) -/
def KLr1 (Q : VK) : VK := fun x H1 => ∃ n, x = .int n ∧ (RgOk 0 n ∧ ∀ q, H1 q = none → Q (.ref q) (upd H1 q (.lst (rgV 0 n))))
theorem e_lrg1 {a : Xp} (h : a.den v W σ H (KLr1 Q)) : Xp.den v (.lrg1 a) W σ H Q := h
theorem k_lr1 {n : Int} (hn : RgOk 0 n) (h : KNew (.lst (rgV 0 n)) Q H) : KLr1 Q (.int n) H := ⟨n, rfl, hn, h⟩
def KRr1 (R : It → Hp → Prop) : VK := fun x H1 => ∃ n, x = .int n ∧ (-(2 ^ 62) ≤ (0 : Int) ∧ (0 : Int) < 2 ^ 62 ∧ -(2 ^ 62) ≤ n ∧ n < 2 ^ 62 ∧ R (Itc (0 + (((n - 0).toNat : Nat) : Int) - 1) (-1) (n - 0).toNat) H1)
theorem q_rvr1 {a : Xp} {R : It → Hp → Prop} (h : a.den v W σ H (KRr1 R)) : Sq.den v (.rvr1 a) W σ H R := h
theorem k_rr1 {n : Int} {R : It → Hp → Prop} (h1 : -(2 ^ 62) ≤ n) (h2 : n < 2 ^ 62) (h : R (Itc (n.toNat - 1) (-1) n.toNat) H) : KRr1 R (.int n) H := ⟨n, rfl, by decide, by decide, h1, h2, by simpa using h⟩
/-- range with a step of two -/
theorem k_r3p {i j c : Int} {R : It → Hp → Prop} {m : Nat} (hr : RgC i j c m) (h : R (Itc i c m) H) : KR3c R [.int i, .int j, .int c] H := ⟨i, j, c, m, rfl, hr, h⟩
/-! len(x) of an instance -/
def KLo (v : Ev) (m C : Nat) (Q : VK) : List V → Hp → Prop := fun vs H1 => ∃ a dx fs, vs = [V.ref a] ∧ H1 a = some (.ins (v.cls C) dx fs) ∧ v.sp m [V.ref a] H1 (fun y H2 => ∃ n : Int, y = .int n ∧ 0 ≤ n ∧ n < 2 ^ 63 ∧ Q (.int n) H2) fun _ _ _ => False
theorem e_lenO {m C : Nat} {es : Xps} (h : es.den v W σ H (KLo v m C Q)) : Xp.den v (.lenO m C es) W σ H Q := h
theorem k_lo {m C : Nat} {a dx : Addr} {fs : List (Str × V)} (ha : H a = some (.ins (v.cls C) dx fs)) (h : v.sp m [V.ref a] H (fun y H2 => ∃ n : Int, y = .int n ∧ 0 ≤ n ∧ n < 2 ^ 63 ∧ Q (.int n) H2) fun _ _ _ => False) : KLo v m C Q [V.ref a] H :=
  ⟨a, dx, fs, rfl, ha, h⟩
/-! enumerate over a tuple -/
def KEnT (K : PySem.W.Frag) (R : It → Hp → Prop) : List V → Hp → Prop := fun vs H1 => ∃ a xs, vs = [.ref a] ∧ SqT K H1 a xs ∧ R (IteT K a xs.length) H1
theorem q_enmT {e : Xp} {R : It → Hp → Prop} (h : Xps.den v (.cons e .nil) W σ H (KEnT v.K R)) : Sq.den v (.enmT e) W σ H R := h
theorem k_enT {a : Addr} {xs : List V} {R : It → Hp → Prop} (h : SqT K w.H a xs) (r : R (IteT K a xs.length) w.H) : KEnT K R [.ref a] w.H := ⟨a, xs, rfl, h, r⟩
theorem k_for_enmT {a : Addr} {xs : List V} {g : TG} {tb : TS} (Inv : Nat → St → Wd → Prop) (hk : ∀ i σ w', Inv i σ w' → SqT K w'.H a xs) (h0 : Inv 0 σ w)
    (hs : ∀ (i : Nat) x σ w' w2 T, xs[i]? = some x → Inv i σ w' → Ex [] w' w2 → w2.H T = some (.tup [.int i, x]) → g (.ref T) σ w2.H fun σ2 H2 => tb ⟨KIs (Inv (i + 1)), rt, nx, KIs (Inv (i + 1))⟩ σ2 H2)
    (hd : ∀ σ w', Inv xs.length σ w' → nx σ w'.H) : KFor g tb ⟨nx, rt, bk, ct⟩ σ (IteT K a xs.length) w.H := by
  refine ⟨fun i m σ H => m = xs.length - i ∧ i ≤ xs.length ∧ KIs (Inv i) σ H, ⟨xs.length, by simp, Nat.zero_le _, k_is h0⟩, ?_⟩
  rintro i m σ H ⟨rfl, hi, w', rfl, p⟩
  have q := hk i σ w' p
  by_cases hlt : i < xs.length
  · refine .inr ⟨⟨xs, xs[i], q, rfl, by simp [hlt]⟩, KIs (Inv (i + 1)), fun σ' H' p' => ⟨xs.length - (i + 1), by omega, rfl, hlt, p'⟩, fun z H' y => ?_⟩
    obtain ⟨T, x, rfl, hT, rfl, f⟩ := y
    exact hs i x σ w' (w'.put T _) T (f xs q) p (ex_new hT) upd_same
  · have e : i = xs.length := by omega
    subst e
    exact .inl ⟨⟨xs, q, rfl, Nat.le_refl _⟩, hd σ w' p⟩
/-! max, min with default; min of data -/
def KMy (K : PySem.W.Frag) (mx : Bool) (x : V) (Q : VK) : VK := fun z H2 => MX.rDf K mx [x] [z] H2 Q
def KMx (v : Ev) (mx : Bool) (d : Xp) (W : WX) (σ : St) (Q : VK) : VK := fun x H1 => d.den v W σ H1 (KMy v.K mx x Q)
theorem e_mxd {mx : Bool} {a d : Xp} (h : a.den v W σ H (KMx v mx d W σ Q)) : Xp.den v (.mxd mx a d) W σ H Q := h
theorem k_mx {mx : Bool} {d : Xp} {x : V} (h : d.den v W σ H (KMy v.K mx x Q)) : KMx v mx d W σ Q x H := h
theorem k_my {mx : Bool} {a : Addr} {ns : List Int} {d : Int} (hs : SqL K H a (ns.map V.int)) (q0 : ns = [] → Q (.int d) H) (q1 : ∀ m, m ∈ ns → (∀ y, y ∈ ns → if mx = true then y ≤ m else m ≤ y) → Q (.int m) H) : KMy K mx (.ref a) Q (.int d) H := ⟨a, ns, d, rfl, rfl, hs, q0, q1⟩
theorem f_minD {a : Addr} {xs : List V} {z : PyData} {zs : List PyData} (o : w.H a = some (.lst xs)) (r : Dvs w xs (z :: zs)) (nd : PyData.hasDictAll (z :: zs) = false) (al : PySem.W.AlikeAll (z :: zs)) (dp : PyData.depthAll (z :: zs) < 60)
    (q : ∀ (i : Nat) y, xs[i]? = some y → (z :: zs).getD i .none = PySem.W.minD z zs → Q y w.H) : KBf K .min Q [.ref a] w.H := .inr ⟨a, xs, z, zs, rfl, sqL o, r.dp.dp nd, al, dp, q⟩
theorem f_minL {a : Addr} {ns : List Int} (hs : SqL K H a (ns.map V.int)) (h0 : 0 < ns.length) (q : ∀ m, m ∈ ns → (∀ y, y ∈ ns → m ≤ y) → Q (.int m) H) : KBf K .min Q [.ref a] H := .inl ⟨ns, hs, h0, q⟩
theorem f_maxL {a : Addr} {ns : List Int} (hs : SqL K H a (ns.map V.int)) (h0 : 0 < ns.length) (q : ∀ m, m ∈ ns → (∀ y, y ∈ ns → y ≤ m) → Q (.int m) H) : KBf K .max Q [.ref a] H := ⟨ns, hs, h0, q⟩
/-! sorted of a dict's keys -/
theorem f_srtD {a : Addr} {kvs : List (Key × V)} {ks : List Int} (hd : w.H a = some (.dK kvs)) (e : kvs.map (·.1) = ks.map Sum.inl) (hl : ks.length < 64) (h : ∀ (ys : List Int), ys.Perm ks → ys.Pairwise (· ≤ ·) → KNew (.lst (ys.map V.int)) Q w.H) : KBf K .sorted Q [.ref a] w.H :=
  RSrt.dct (.inl hd) e hl fun ys p hp hs hn => h ys hp hs p hn
theorem f_srtL {a : Addr} {ns : List Int} (hd : w.H a = some (.lst (ns.map V.int))) (h : ∀ (ys : List Int), ys.Perm ns → ys.Pairwise (· ≤ ·) → KNew (.lst (ys.map V.int)) Q w.H) : KBf K .sorted Q [.ref a] w.H :=
  RSrt.srt (sqL hd) fun ys p hp hs hn => h ys hp hs p hn
end
end DI

namespace LK
open L2 DI
open PySem.Spec
open PyProof.Rows hiding St
open PySem

/-! the code of k53, printed by gen.py -/
def topS (i : Nat) : Stmt := PySem.Challenge.pw_clockwright_k53_refutations.main.body.getD i (.Pass ⟨0, 0, 0, 0⟩)
abbrev c_Solver : Nat := 0
abbrev i_open_terms : Nat := 0
abbrev i_check_step : Nat := 1
abbrev i_is_integer : Nat := 2
abbrev i_is_row : Nat := 3
abbrev i_are_integers : Nat := 4
abbrev i_is_step : Nat := 5
abbrev i_check_refutation : Nat := 6
abbrev i_distinct : Nat := 7
abbrev i_Solver_init : Nat := 8
abbrev i_Solver_note : Nat := 9
abbrev i_Solver_add : Nat := 10
abbrev i_Solver_open_terms : Nat := 11
abbrev i_Solver_look : Nat := 12
abbrev i_Solver_begin : Nat := 13
abbrev i_Solver_propagate : Nat := 14
abbrev i_Solver_marked_terms : Nat := 15
abbrev i_Solver_learn : Nat := 16
abbrev i_Solver_cut : Nat := 17
abbrev i_Solver_decide : Nat := 18
abbrev i_Solver_assignment : Nat := 19
abbrev i_solve : Nat := 20
abbrev i_law_state : Nat := 21
abbrev i_law_take : Nat := 22
abbrev i_law_clause : Nat := 23
abbrev i_law_true : Nat := 24
abbrev i_law_all : Nat := 25
abbrev i_law_models : Nat := 26
abbrev i_law_ints : Nat := 27
abbrev i_law_step : Nat := 28
abbrev i_law_right : Nat := 29
abbrev i_law_strange : Nat := 30
abbrev i_law_bent : Nat := 31
abbrev i_law : Nat := 32
/-- open_terms: 0 clause, 1 assumed, 2 result, 3 term -/
def b_open_terms : Sms := (.cons (.asg (.nm 2) (.lst .nil))
  (.cons (.for_ (.nm 3) (.any (.lst (.v 0)) (.any (.tup (.v 0)) (.txt (.v 0)))) (.cons (.ite (.and (.cmp .NotIn (.neg (.v 3)) (.v 1)) (.cmp .NotIn (.v 3) (.v 2))) (.cons (.exp (.bm .append (.v 2) (.cons (.v 3) .nil)))
  .nil) .nil)
  .nil))
  (.cons (.ret (.v 2))
  .nil)))
def d_open_terms : Df := ⟨["clause", "assumed"], ["clause", "assumed", "result", "term"], b_open_terms, []⟩
/-- check_step: 0 clauses, 1 clause, 2 hints, 3 assumed, 4 term, 5 hint, 6 terms -/
def b_check_step : Sms := (.cons (.asg (.nm 3) .dct0)
  (.cons (.for_ (.nm 4) (.any (.lst (.v 1)) (.any (.tup (.v 1)) (.txt (.v 1)))) (.cons (.asg (.sub (.v 3) (.neg (.v 4))) (.c (.bl true)))
  .nil))
  (.cons (.for_ (.nm 5) (.any (.lst (.v 2)) (.any (.tup (.v 2)) (.txt (.v 2)))) (.cons (.ite (.or (.cmp .Lt (.v 5) (.c (.int 0))) (.cmp .GtE (.v 5) (.bc .len (.cons (.v 0) .nil)))) (.cons (.ret (.c (.bl false)))
  .nil) .nil)
  (.cons (.asg (.nm 6) (.call i_open_terms (.cons (.ix (.v 0) (.v 5)) (.cons (.v 3) .nil))))
  (.cons (.ite (.cmp .Eq (.bc .len (.cons (.v 6) .nil)) (.c (.int 0))) (.cons (.ret (.c (.bl true)))
  .nil) .nil)
  (.cons (.ite (.cmp .Gt (.bc .len (.cons (.v 6) .nil)) (.c (.int 1))) (.cons (.ret (.c (.bl false)))
  .nil) .nil)
  (.cons (.asg (.sub (.v 3) (.ix (.v 6) (.c (.int 0)))) (.c (.bl true)))
  .nil))))))
  (.cons (.ret (.c (.bl false)))
  .nil))))
def d_check_step : Df := ⟨["clauses", "clause", "hints"], ["clauses", "clause", "hints", "assumed", "term", "hint", "terms"], b_check_step, []⟩
/-- is_integer: 0 value -/
def b_is_integer : Sms := (.cons (.ret (.and (.bc .isi (.cons (.v 0) (.cons (.ty "int") .nil))) (.not (.bc .isi (.cons (.v 0) (.cons (.ty "bool") .nil))))))
  .nil)
def d_is_integer : Df := ⟨["value"], ["value"], b_is_integer, []⟩
/-- is_row: 0 value -/
def b_is_row : Sms := (.cons (.ret (.or (.bc .isi (.cons (.v 0) (.cons (.ty "list") .nil))) (.bc .isi (.cons (.v 0) (.cons (.ty "tuple") .nil)))))
  .nil)
def d_is_row : Df := ⟨["value"], ["value"], b_is_row, []⟩
/-- are_integers: 0 value, 1 item -/
def b_are_integers : Sms := (.cons (.ite (.not (.tr (.call i_is_row (.cons (.v 0) .nil)))) (.cons (.ret (.c (.bl false)))
  .nil) .nil)
  (.cons (.for_ (.nm 1) (.any (.lst (.v 0)) (.any (.tup (.v 0)) (.txt (.v 0)))) (.cons (.ite (.not (.tr (.call i_is_integer (.cons (.v 1) .nil)))) (.cons (.ret (.c (.bl false)))
  .nil) .nil)
  .nil))
  (.cons (.ret (.c (.bl true)))
  .nil)))
def d_are_integers : Df := ⟨["value"], ["value", "item"], b_are_integers, []⟩
/-- is_step: 0 value -/
def b_is_step : Sms := (.cons (.ite (.or (.not (.tr (.call i_is_row (.cons (.v 0) .nil)))) (.cmp .NotEq (.bc .len (.cons (.v 0) .nil)) (.c (.int 2)))) (.cons (.ret (.c (.bl false)))
  .nil) .nil)
  (.cons (.ite (.or (.not (.tr (.call i_are_integers (.cons (.ix (.v 0) (.c (.int 0))) .nil)))) (.not (.tr (.call i_are_integers (.cons (.ix (.v 0) (.c (.int 1))) .nil))))) (.cons (.ret (.c (.bl false)))
  .nil) .nil)
  (.cons (.ret (.cmp .NotIn (.c (.int 0)) (.ix (.v 0) (.c (.int 0)))))
  .nil)))
def d_is_step : Df := ⟨["value"], ["value"], b_is_step, []⟩
/-- check_refutation: 0 clauses, 1 refutation, 2 known, 3 step -/
def b_check_refutation : Sms := (.cons (.ite (.or (.not (.tr (.call i_is_row (.cons (.v 1) .nil)))) (.cmp .Eq (.bc .len (.cons (.v 1) .nil)) (.c (.int 0)))) (.cons (.ret (.c (.bl false)))
  .nil) .nil)
  (.cons (.asg (.nm 2) (.bc .list (.cons (.v 0) .nil)))
  (.cons (.for_ (.nm 3) (.any (.lst (.v 1)) (.any (.tup (.v 1)) (.txt (.v 1)))) (.cons (.ite (.or (.not (.tr (.call i_is_step (.cons (.v 3) .nil)))) (.not (.tr (.call i_check_step (.cons (.v 2) (.cons (.ix (.v 3) (.c (.int 0))) (.cons (.ix (.v 3) (.c (.int 1))) .nil))))))) (.cons (.ret (.c (.bl false)))
  .nil) .nil)
  (.cons (.exp (.bm .append (.v 2) (.cons (.ix (.v 3) (.c (.int 0))) .nil)))
  .nil)))
  (.cons (.ret (.cmp .Eq (.bc .len (.cons (.ix (.ix (.v 1) (.neg (.c (.int 1)))) (.c (.int 0))) .nil)) (.c (.int 0))))
  .nil))))
def d_check_refutation : Df := ⟨["clauses", "refutation"], ["clauses", "refutation", "known", "step"], b_check_refutation, []⟩
/-- distinct: 0 clause, 1 result, 2 term -/
def b_distinct : Sms := (.cons (.asg (.nm 1) (.lst .nil))
  (.cons (.for_ (.nm 2) (.tup (.v 0)) (.cons (.ite (.cmp .NotIn (.v 2) (.v 1)) (.cons (.exp (.bm .append (.v 1) (.cons (.v 2) .nil)))
  .nil) .nil)
  .nil))
  (.cons (.ret (.v 1))
  .nil)))
def d_distinct : Df := ⟨["clause"], ["clause", "result", "term"], b_distinct, []⟩
/-- Solver.__init__: 0 self, 1 clauses, 2 variables, 3 number, 4 clause -/
def b_Solver_init : Sms := (.cons (.fld c_Solver (.v 0) "clauses" (.lc (.call i_distinct (.cons (.v 4) .nil)) (.nm 4) (.lst (.v 1)) .no [4]))
  (.cons (.fld c_Solver (.v 0) "variables" (.v 2))
  (.cons (.fld c_Solver (.v 0) "trail" (.lst .nil))
  (.cons (.fld c_Solver (.v 0) "reasons" .dct0)
  (.cons (.fld c_Solver (.v 0) "handled" (.c (.int 0)))
  (.cons (.fld c_Solver (.v 0) "steps" (.lst .nil))
  (.cons (.fld c_Solver (.v 0) "users" .dct0)
  (.cons (.for_ (.nm 3) (.rng1 (.bc .len (.cons (.fld c_Solver (.v 0) "clauses") .nil))) (.cons (.exp (.meth i_Solver_note c_Solver "note" (.v 0) (.cons (.v 3) .nil)))
  .nil))
  .nil))))))))
def d_Solver_init : Df := ⟨["self", "clauses", "variables"], ["self", "clauses", "variables", "number", "clause"], b_Solver_init, []⟩
/-- Solver.note: 0 self, 1 number, 2 term -/
def b_Solver_note : Sms := (.cons (.for_ (.nm 2) (.lst (.ix (.fld c_Solver (.v 0) "clauses") (.v 1))) (.cons (.ite (.cmp .NotIn (.v 2) (.fld c_Solver (.v 0) "users")) (.cons (.asg (.sub (.fld c_Solver (.v 0) "users") (.v 2)) (.lst .nil))
  .nil) .nil)
  (.cons (.exp (.bm .append (.ix (.fld c_Solver (.v 0) "users") (.v 2)) (.cons (.v 1) .nil)))
  .nil)))
  .nil)
def d_Solver_note : Df := ⟨["self", "number"], ["self", "number", "term"], b_Solver_note, []⟩
/-- Solver.add: 0 self, 1 term, 2 reason -/
def b_Solver_add : Sms := (.cons (.exp (.bm .append (.fld c_Solver (.v 0) "trail") (.cons (.v 1) .nil)))
  (.cons (.asg (.sub (.fld c_Solver (.v 0) "reasons") (.v 1)) (.v 2))
  .nil))
def d_Solver_add : Df := ⟨["self", "term", "reason"], ["self", "term", "reason"], b_Solver_add, []⟩
/-- Solver.open_terms: 0 self, 1 clause, 2 result, 3 term -/
def b_Solver_open_terms : Sms := (.cons (.asg (.nm 2) (.lst .nil))
  (.cons (.for_ (.nm 3) (.lst (.v 1)) (.cons (.ite (.cmp .In (.v 3) (.fld c_Solver (.v 0) "reasons")) (.cons (.ret (.c .non))
  .nil) .nil)
  (.cons (.ite (.cmp .NotIn (.neg (.v 3)) (.fld c_Solver (.v 0) "reasons")) (.cons (.exp (.bm .append (.v 2) (.cons (.v 3) .nil)))
  .nil) .nil)
  .nil)))
  (.cons (.ret (.v 2))
  .nil)))
def d_Solver_open_terms : Df := ⟨["self", "clause"], ["self", "clause", "result", "term"], b_Solver_open_terms, []⟩
/-- Solver.look: 0 self, 1 number, 2 terms -/
def b_Solver_look : Sms := (.cons (.asg (.nm 2) (.meth i_Solver_open_terms c_Solver "open_terms" (.v 0) (.cons (.ix (.fld c_Solver (.v 0) "clauses") (.v 1)) .nil)))
  (.cons (.ite (.or (.cmp .Is (.v 2) (.c .non)) (.cmp .Gt (.bc .len (.cons (.v 2) .nil)) (.c (.int 1)))) (.cons (.ret (.c (.bl false)))
  .nil) .nil)
  (.cons (.ite (.cmp .Eq (.bc .len (.cons (.v 2) .nil)) (.c (.int 0))) (.cons (.ret (.c (.bl true)))
  .nil) .nil)
  (.cons (.exp (.meth i_Solver_add c_Solver "add" (.v 0) (.cons (.ix (.v 2) (.c (.int 0))) (.cons (.v 1) .nil))))
  (.cons (.ret (.c (.bl false)))
  .nil)))))
def d_Solver_look : Df := ⟨["self", "number"], ["self", "number", "terms"], b_Solver_look, []⟩
/-- Solver.begin: 0 self, 1 number -/
def b_Solver_begin : Sms := (.cons (.for_ (.nm 1) (.rng1 (.bc .len (.cons (.fld c_Solver (.v 0) "clauses") .nil))) (.cons (.ite (.and (.cmp .LtE (.bc .len (.cons (.ix (.fld c_Solver (.v 0) "clauses") (.v 1)) .nil)) (.c (.int 1))) (.tr (.meth i_Solver_look c_Solver "look" (.v 0) (.cons (.v 1) .nil)))) (.cons (.ret (.v 1))
  .nil) .nil)
  .nil))
  (.cons (.ret (.c .non))
  .nil))
def d_Solver_begin : Df := ⟨["self"], ["self", "number"], b_Solver_begin, []⟩
/-- Solver.propagate: 0 self, 1 term, 2 number -/
def b_Solver_propagate : Sms := (.cons (.whl (.cmp .Lt (.fld c_Solver (.v 0) "handled") (.bc .len (.cons (.fld c_Solver (.v 0) "trail") .nil))) (.cons (.asg (.nm 1) (.ix (.fld c_Solver (.v 0) "trail") (.fld c_Solver (.v 0) "handled")))
  (.cons (.augf c_Solver (.v 0) "handled" .Add (.c (.int 1)))
  (.cons (.for_ (.nm 2) (.lst (.dget (.fld c_Solver (.v 0) "users") (.neg (.v 1)) (.lst .nil))) (.cons (.ite (.tr (.meth i_Solver_look c_Solver "look" (.v 0) (.cons (.v 2) .nil))) (.cons (.ret (.v 2))
  .nil) .nil)
  .nil))
  .nil))))
  (.cons (.ret (.c .non))
  .nil))
def d_Solver_propagate : Df := ⟨["self"], ["self", "term", "number"], b_Solver_propagate, []⟩
/-- Solver.marked_terms: 0 self, 1 conflict, 2 marked, 3 term, 4 reason, 5 other -/
def b_Solver_marked_terms : Sms := (.cons (.asg (.nm 2) .dct0)
  (.cons (.for_ (.nm 3) (.lst (.ix (.fld c_Solver (.v 0) "clauses") (.v 1))) (.cons (.asg (.sub (.v 2) (.neg (.v 3))) (.c (.bl true)))
  .nil))
  (.cons (.for_ (.nm 3) (.rvs (.fld c_Solver (.v 0) "trail")) (.cons (.asg (.nm 4) (.ix (.fld c_Solver (.v 0) "reasons") (.v 3)))
  (.cons (.ite (.and (.cmp .In (.v 3) (.v 2)) (.cmp .IsNot (.v 4) (.c .non))) (.cons (.for_ (.nm 5) (.lst (.ix (.fld c_Solver (.v 0) "clauses") (.v 4))) (.cons (.ite (.cmp .NotEq (.v 5) (.v 3)) (.cons (.asg (.sub (.v 2) (.neg (.v 5))) (.c (.bl true)))
  .nil) .nil)
  .nil))
  .nil) .nil)
  .nil)))
  (.cons (.ret (.lc (.v 3) (.nm 3) (.lst (.fld c_Solver (.v 0) "trail")) (.so (.cmp .In (.v 3) (.v 2))) [3]))
  .nil))))
def d_Solver_marked_terms : Df := ⟨["self", "conflict"], ["self", "conflict", "marked", "term", "reason", "other"], b_Solver_marked_terms, []⟩
/-- Solver.learn: 0 self, 1 conflict, 2 marked, 3 decisions, 4 hints, 5 clause, 6 term -/
def b_Solver_learn : Sms := (.cons (.asg (.nm 2) (.meth i_Solver_marked_terms c_Solver "marked_terms" (.v 0) (.cons (.v 1) .nil)))
  (.cons (.asl 3 (.v 6) (.nm 6) (.lst (.v 2)) (.so (.cmp .Is (.ix (.fld c_Solver (.v 0) "reasons") (.v 6)) (.c .non))) [6])
  (.cons (.asl 4 (.ix (.fld c_Solver (.v 0) "reasons") (.v 6)) (.nm 6) (.lst (.v 2)) (.so (.cmp .IsNot (.ix (.fld c_Solver (.v 0) "reasons") (.v 6)) (.c .non))) [6])
  (.cons (.asl 5 (.neg (.v 6)) (.nm 6) (.rvs (.v 3)) .no [6])
  (.cons (.exp (.bm .append (.fld c_Solver (.v 0) "steps") (.cons (.tup (.cons (.bc .tuple (.cons (.v 5) .nil)) (.cons (.bin .Add (.v 4) (.lst (.cons (.v 1) .nil))) .nil))) .nil)))
  (.cons (.ite (.cmp .Eq (.bc .len (.cons (.v 3) .nil)) (.c (.int 0))) (.cons (.ret (.c (.bl false)))
  .nil) .nil)
  (.cons (.exp (.meth i_Solver_cut c_Solver "cut" (.v 0) (.cons (.ix (.v 3) (.neg (.c (.int 1)))) .nil)))
  (.cons (.exp (.bm .append (.fld c_Solver (.v 0) "clauses") (.cons (.v 5) .nil)))
  (.cons (.exp (.meth i_Solver_note c_Solver "note" (.v 0) (.cons (.bin .Sub (.bc .len (.cons (.fld c_Solver (.v 0) "clauses") .nil)) (.c (.int 1))) .nil)))
  (.cons (.exp (.meth i_Solver_add c_Solver "add" (.v 0) (.cons (.ix (.v 5) (.c (.int 0))) (.cons (.bin .Sub (.bc .len (.cons (.fld c_Solver (.v 0) "clauses") .nil)) (.c (.int 1))) .nil))))
  (.cons (.ret (.c (.bl true)))
  .nil)))))))))))
def d_Solver_learn : Df := ⟨["self", "conflict"], ["self", "conflict", "marked", "decisions", "hints", "clause", "term"], b_Solver_learn, []⟩
/-- Solver.cut: 0 self, 1 decision, 2 last -/
def b_Solver_cut : Sms := (.cons (.asg (.nm 2) (.c .non))
  (.cons (.whl (.cmp .NotEq (.v 2) (.v 1)) (.cons (.asg (.nm 2) (.bm .pop (.fld c_Solver (.v 0) "trail") .nil))
  (.cons (.ddel (.fld c_Solver (.v 0) "reasons") (.v 2))
  .nil)))
  (.cons (.fld c_Solver (.v 0) "handled" (.bc .len (.cons (.fld c_Solver (.v 0) "trail") .nil)))
  .nil)))
def d_Solver_cut : Df := ⟨["self", "decision"], ["self", "decision", "last"], b_Solver_cut, []⟩
/-- Solver.decide: 0 self, 1 variable -/
def b_Solver_decide : Sms := (.cons (.for_ (.nm 1) (.rng2 (.c (.int 1)) (.bin .Add (.fld c_Solver (.v 0) "variables") (.c (.int 1)))) (.cons (.ite (.and (.cmp .NotIn (.v 1) (.fld c_Solver (.v 0) "reasons")) (.cmp .NotIn (.neg (.v 1)) (.fld c_Solver (.v 0) "reasons"))) (.cons (.exp (.meth i_Solver_add c_Solver "add" (.v 0) (.cons (.neg (.v 1)) (.cons (.c .non) .nil))))
  (.cons (.ret (.c (.bl true)))
  .nil)) .nil)
  .nil))
  (.cons (.ret (.c (.bl false)))
  .nil))
def d_Solver_decide : Df := ⟨["self"], ["self", "variable"], b_Solver_decide, []⟩
/-- Solver.assignment: 0 self, 1 result, 2 variable -/
def b_Solver_assignment : Sms := (.cons (.asg (.nm 1) (.lst .nil))
  (.cons (.for_ (.nm 2) (.rng2 (.c (.int 1)) (.bin .Add (.fld c_Solver (.v 0) "variables") (.c (.int 1)))) (.cons (.ite (.cmp .In (.v 2) (.fld c_Solver (.v 0) "reasons")) (.cons (.exp (.bm .append (.v 1) (.cons (.c (.int 1)) .nil)))
  .nil) (.cons (.exp (.bm .append (.v 1) (.cons (.c (.int 0)) .nil)))
  .nil))
  .nil))
  (.cons (.ret (.v 1))
  .nil)))
def d_Solver_assignment : Df := ⟨["self"], ["self", "result", "variable"], b_Solver_assignment, []⟩
/-- solve: 0 clauses, 1 variables, 2 limit, 3 solver, 4 conflicts, 5 conflict -/
def b_solve : Sms := (.cons (.asg (.nm 3) (.mk c_Solver i_Solver_init (.cons (.v 0) (.cons (.v 1) .nil))))
  (.cons (.asg (.nm 4) (.c (.int 0)))
  (.cons (.asg (.nm 5) (.meth i_Solver_begin c_Solver "begin" (.v 3) .nil))
  (.cons (.whl (.tr (.c (.bl true))) (.cons (.ite (.cmp .Is (.v 5) (.c .non)) (.cons (.asg (.nm 5) (.meth i_Solver_propagate c_Solver "propagate" (.v 3) .nil))
  .nil) .nil)
  (.cons (.ite (.cmp .IsNot (.v 5) (.c .non)) (.cons (.aug 4 .Add (.c (.int 1)))
  (.cons (.ite (.cmp .Gt (.v 4) (.v 2)) (.cons (.ret (.tup (.cons (.c (.str (S [117, 110, 107, 110, 111, 119, 110]))) (.cons (.c .non) .nil))))
  .nil) .nil)
  (.cons (.ite (.not (.tr (.meth i_Solver_learn c_Solver "learn" (.v 3) (.cons (.v 5) .nil)))) (.cons (.ret (.tup (.cons (.c (.str (S [114, 101, 102, 117, 116, 101, 100]))) (.cons (.fld c_Solver (.v 3) "steps") .nil))))
  .nil) .nil)
  (.cons (.asg (.nm 5) (.c .non))
  .nil)))) (.cons (.ite (.not (.tr (.meth i_Solver_decide c_Solver "decide" (.v 3) .nil))) (.cons (.ret (.tup (.cons (.c (.str (S [109, 111, 100, 101, 108]))) (.cons (.meth i_Solver_assignment c_Solver "assignment" (.v 3) .nil) .nil))))
  .nil) .nil)
  .nil))
  .nil)))
  .nil))))
def d_solve : Df := ⟨["clauses", "variables", "limit"], ["clauses", "variables", "limit", "solver", "conflicts", "conflict"], b_solve, []⟩
/-- _law_state: 0 _law_script, 1 _law_cells, 2 _law_cell -/
def b_law_state : Sms := (.cons (.asl 1 (.bc .abs (.cons (.v 2) .nil)) (.nm 2) (.lst (.sl (.v 0) .no (.so (.c (.int 63))))) .no [2])
  (.cons (.ite (.cmp .Eq (.bc .len (.cons (.v 1) .nil)) (.c (.int 0))) (.cons (.asg (.nm 1) (.lst (.cons (.c (.int 0)) .nil)))
  .nil) .nil)
  (.cons (.ret (.lst (.cons (.c (.int 0)) (.cons (.v 1) .nil))))
  .nil)))
def d_law_state : Df := ⟨["_law_script"], ["_law_script", "_law_cells", "_law_cell"], b_law_state, []⟩
/-- _law_take: 0 _law_state_here, 1 _law_most, 2 _law_cells, 3 _law_at, 4 _law_cell, 5 _law_mixed -/
def b_law_take : Sms := (.cons (.asg (.nm 2) (.ix (.v 0) (.c (.int 1))))
  (.cons (.asg (.nm 3) (.bin .Mod (.ix (.v 0) (.c (.int 0))) (.bc .len (.cons (.v 2) .nil))))
  (.cons (.asg (.nm 4) (.ix (.v 2) (.v 3)))
  (.cons (.ite (.cmp .GtE (.v 4) (.c (.int 1000000000000000000))) (.cons (.asg (.sub (.v 2) (.v 3)) (.bin .FloorDiv (.v 4) (.v 1)))
  (.cons (.ret (.bin .Mod (.v 4) (.v 1)))
  .nil)) .nil)
  (.cons (.asg (.sub (.v 0) (.c (.int 0))) (.bin .Add (.ix (.v 0) (.c (.int 0))) (.c (.int 1))))
  (.cons (.asg (.nm 5) (.bin .Mod (.bc .int (.cons (.bin .Add (.bin .Mult (.v 4) (.c (.int 48271))) (.bin .Mult (.ix (.v 0) (.c (.int 0))) (.c (.int 69621)))) .nil)) (.c (.int 2147483647))))
  (.cons (.asg (.nm 5) (.bin .Mod (.bc .int (.cons (.bin .Add (.bin .Mult (.v 5) (.c (.int 16807))) (.bin .Mult (.ix (.v 0) (.c (.int 0))) (.c (.int 7919)))) .nil)) (.c (.int 1000000007))))
  (.cons (.ret (.bin .Mod (.bin .FloorDiv (.v 5) (.c (.int 7))) (.v 1)))
  .nil))))))))
def d_law_take : Df := ⟨["_law_state_here", "_law_most"], ["_law_state_here", "_law_most", "_law_cells", "_law_at", "_law_cell", "_law_mixed"], b_law_take, []⟩
/-- _law_clause: 0 _law_state_here, 1 _law_variables, 2 _law_size, 3 _law_clause_here, 4 _law_k, 5 _law_variable -/
def b_law_clause : Sms := (.cons (.asg (.nm 3) (.lst .nil))
  (.cons (.for_ (.nm 4) (.rng1 (.v 2)) (.cons (.asg (.nm 5) (.bin .Add (.c (.int 1)) (.call i_law_take (.cons (.v 0) (.cons (.v 1) .nil)))))
  (.cons (.exp (.bm .append (.v 3) (.cons (.ix (.lst (.cons (.v 5) (.cons (.neg (.v 5)) .nil))) (.call i_law_take (.cons (.v 0) (.cons (.c (.int 2)) .nil)))) .nil)))
  .nil)))
  (.cons (.ret (.bc .tuple (.cons (.v 3) .nil)))
  .nil)))
def d_law_clause : Df := ⟨["_law_state_here", "_law_variables", "_law_size"], ["_law_state_here", "_law_variables", "_law_size", "_law_clause_here", "_law_k", "_law_variable"], b_law_clause, []⟩
/-- _law_true: 0 _law_clause_here, 1 _law_bits_here, 2 _law_term -/
def b_law_true : Sms := (.cons (.for_ (.nm 2) (.tup (.v 0)) (.cons (.ite (.or (.and (.cmp .Gt (.v 2) (.c (.int 0))) (.cmp .Eq (.ix (.v 1) (.bin .Sub (.v 2) (.c (.int 1)))) (.c (.int 1)))) (.and (.cmp .Lt (.v 2) (.c (.int 0))) (.cmp .Eq (.ix (.v 1) (.bin .Sub (.neg (.v 2)) (.c (.int 1)))) (.c (.int 0))))) (.cons (.ret (.c (.bl true)))
  .nil) .nil)
  .nil))
  (.cons (.ret (.c (.bl false)))
  .nil))
def d_law_true : Df := ⟨["_law_clause_here", "_law_bits_here"], ["_law_clause_here", "_law_bits_here", "_law_term"], b_law_true, []⟩
/-- _law_all: 0 _law_clauses, 1 _law_bits_here, 2 _law_clause_here -/
def b_law_all : Sms := (.cons (.ret (.cmp .Eq (.bc .len (.cons (.lc (.v 2) (.nm 2) (.lst (.v 0)) (.so (.not (.tr (.call i_law_true (.cons (.v 2) (.cons (.v 1) .nil)))))) [2]) .nil)) (.c (.int 0))))
  .nil)
def d_law_all : Df := ⟨["_law_clauses", "_law_bits_here"], ["_law_clauses", "_law_bits_here", "_law_clause_here"], b_law_all, []⟩
/-- _law_models: 0 _law_clauses, 1 _law_variables, 2 _law_models_here, 3 _law_number, 4 _law_bits_here, 5 _law_k -/
def b_law_models : Sms := (.cons (.asg (.nm 2) (.lst .nil))
  (.cons (.for_ (.nm 3) (.rng1 (.bin .LShift (.c (.int 1)) (.v 1))) (.cons (.asl 4 (.bin .Mod (.bin .FloorDiv (.v 3) (.bin .LShift (.c (.int 1)) (.v 5))) (.c (.int 2))) (.nm 5) (.rng1 (.v 1)) .no [5])
  (.cons (.ite (.tr (.call i_law_all (.cons (.v 0) (.cons (.v 4) .nil)))) (.cons (.exp (.bm .append (.v 2) (.cons (.v 4) .nil)))
  .nil) .nil)
  .nil)))
  (.cons (.ret (.v 2))
  .nil)))
def d_law_models : Df := ⟨["_law_clauses", "_law_variables"], ["_law_clauses", "_law_variables", "_law_models_here", "_law_number", "_law_bits_here", "_law_k"], b_law_models, []⟩
/-- _law_ints: 0 _law_value, 1 _law_item -/
def b_law_ints : Sms := (.cons (.ite (.and (.not (.tr (.bc .isi (.cons (.v 0) (.cons (.ty "list") .nil))))) (.not (.tr (.bc .isi (.cons (.v 0) (.cons (.ty "tuple") .nil)))))) (.cons (.ret (.c (.bl false)))
  .nil) .nil)
  (.cons (.for_ (.nm 1) (.any (.lst (.v 0)) (.any (.tup (.v 0)) (.txt (.v 0)))) (.cons (.ite (.or (.not (.tr (.bc .isi (.cons (.v 1) (.cons (.ty "int") .nil))))) (.tr (.bc .isi (.cons (.v 1) (.cons (.ty "bool") .nil))))) (.cons (.ret (.c (.bl false)))
  .nil) .nil)
  .nil))
  (.cons (.ret (.c (.bl true)))
  .nil)))
def d_law_ints : Df := ⟨["_law_value"], ["_law_value", "_law_item"], b_law_ints, []⟩
/-- _law_step: 0 _law_clauses, 1 _law_value, 2 _law_assumed, 3 _law_hint, 4 _law_terms, 5 _law_term -/
def b_law_step : Sms := (.cons (.ite (.or (.and (.not (.tr (.bc .isi (.cons (.v 1) (.cons (.ty "list") .nil))))) (.not (.tr (.bc .isi (.cons (.v 1) (.cons (.ty "tuple") .nil)))))) (.cmp .NotEq (.bc .len (.cons (.v 1) .nil)) (.c (.int 2)))) (.cons (.ret (.c (.bl false)))
  .nil) .nil)
  (.cons (.ite (.or (.not (.tr (.call i_law_ints (.cons (.ix (.v 1) (.c (.int 0))) .nil)))) (.or (.not (.tr (.call i_law_ints (.cons (.ix (.v 1) (.c (.int 1))) .nil)))) (.cmp .In (.c (.int 0)) (.ix (.v 1) (.c (.int 0)))))) (.cons (.ret (.c (.bl false)))
  .nil) .nil)
  (.cons (.asl 2 (.neg (.v 5)) (.nm 5) (.any (.lst (.ix (.v 1) (.c (.int 0)))) (.any (.tup (.ix (.v 1) (.c (.int 0)))) (.txt (.ix (.v 1) (.c (.int 0)))))) .no [5])
  (.cons (.for_ (.nm 3) (.any (.lst (.ix (.v 1) (.c (.int 1)))) (.any (.tup (.ix (.v 1) (.c (.int 1)))) (.txt (.ix (.v 1) (.c (.int 1)))))) (.cons (.ite (.or (.cmp .Lt (.v 3) (.c (.int 0))) (.cmp .GtE (.v 3) (.bc .len (.cons (.v 0) .nil)))) (.cons (.ret (.c (.bl false)))
  .nil) .nil)
  (.cons (.asg (.nm 4) (.lst .nil))
  (.cons (.for_ (.nm 5) (.any (.lst (.ix (.v 0) (.v 3))) (.any (.tup (.ix (.v 0) (.v 3))) (.txt (.ix (.v 0) (.v 3))))) (.cons (.ite (.and (.cmp .NotIn (.neg (.v 5)) (.v 2)) (.cmp .NotIn (.v 5) (.v 4))) (.cons (.exp (.bm .append (.v 4) (.cons (.v 5) .nil)))
  .nil) .nil)
  .nil))
  (.cons (.ite (.cmp .Eq (.bc .len (.cons (.v 4) .nil)) (.c (.int 0))) (.cons (.ret (.c (.bl true)))
  .nil) .nil)
  (.cons (.ite (.cmp .Gt (.bc .len (.cons (.v 4) .nil)) (.c (.int 1))) (.cons (.ret (.c (.bl false)))
  .nil) .nil)
  (.cons (.exp (.bm .append (.v 2) (.cons (.ix (.v 4) (.c (.int 0))) .nil)))
  .nil)))))))
  (.cons (.ret (.c (.bl false)))
  .nil)))))
def d_law_step : Df := ⟨["_law_clauses", "_law_value"], ["_law_clauses", "_law_value", "_law_assumed", "_law_hint", "_law_terms", "_law_term"], b_law_step, []⟩
/-- _law_right: 0 _law_clauses, 1 _law_value, 2 _law_known, 3 _law_step_here -/
def b_law_right : Sms := (.cons (.ite (.or (.and (.not (.tr (.bc .isi (.cons (.v 1) (.cons (.ty "list") .nil))))) (.not (.tr (.bc .isi (.cons (.v 1) (.cons (.ty "tuple") .nil)))))) (.cmp .Eq (.bc .len (.cons (.v 1) .nil)) (.c (.int 0)))) (.cons (.ret (.c (.bl false)))
  .nil) .nil)
  (.cons (.asg (.nm 2) (.bc .list (.cons (.v 0) .nil)))
  (.cons (.for_ (.nm 3) (.any (.lst (.v 1)) (.any (.tup (.v 1)) (.txt (.v 1)))) (.cons (.ite (.not (.tr (.call i_law_step (.cons (.v 2) (.cons (.v 3) .nil))))) (.cons (.ret (.c (.bl false)))
  .nil) .nil)
  (.cons (.exp (.bm .append (.v 2) (.cons (.ix (.v 3) (.c (.int 0))) .nil)))
  .nil)))
  (.cons (.ret (.cmp .Eq (.bc .len (.cons (.ix (.ix (.v 1) (.bin .Sub (.bc .len (.cons (.v 1) .nil)) (.c (.int 1)))) (.c (.int 0))) .nil)) (.c (.int 0))))
  .nil))))
def d_law_right : Df := ⟨["_law_clauses", "_law_value"], ["_law_clauses", "_law_value", "_law_known", "_law_step_here"], b_law_right, []⟩
/-- _law_strange: 0 _law_state_here, 1 _law_things -/
def b_law_strange : Sms := (.cons (.asg (.nm 1) (.lst (.cons (.c .non) (.cons (.c (.bl true)) (.cons (.c (.bl false)) (.cons (.c (.str (S []))) (.cons (.c (.str (S [97, 98]))) (.cons (.c (.int 0)) (.cons (.c (.int 1)) (.cons (.neg (.c (.int 1))) (.cons (.lst .nil) (.cons (.tup .nil) (.cons (.lst (.cons (.lst .nil) (.cons (.lst .nil) .nil))) (.cons (.tup (.cons (.tup .nil) (.cons (.tup .nil) .nil))) (.cons (.lst (.cons (.c (.int 1)) .nil)) (.cons (.tup (.cons (.c (.int 1)) (.cons (.c (.int 2)) .nil))) (.cons .dct0 (.cons (.dct (.cons (.c (.int 1)) .nil) (.cons (.c (.int 2)) .nil)) .nil))))))))))))))))))
  (.cons (.ret (.ix (.v 1) (.call i_law_take (.cons (.v 0) (.cons (.c (.int 16)) .nil)))))
  .nil))
def d_law_strange : Df := ⟨["_law_state_here"], ["_law_state_here", "_law_things"], b_law_strange, []⟩
/-- _law_bent: 0 _law_state_here, 1 _law_steps, 2 _law_choice, 3 _law_at, 4 _law_place, 5 _law_clause_here, 6 _law_hints, 7 _law_step_here -/
def b_law_bent : Sms := (.cons (.asg (.nm 2) (.call i_law_take (.cons (.v 0) (.cons (.c (.int 10)) .nil))))
  (.cons (.ite (.or (.cmp .Eq (.v 2) (.c (.int 0))) (.cmp .Eq (.bc .len (.cons (.v 1) .nil)) (.c (.int 0)))) (.cons (.ret (.call i_law_strange (.cons (.v 0) .nil)))
  .nil) .nil)
  (.cons (.asg (.nm 3) (.call i_law_take (.cons (.v 0) (.cons (.bc .len (.cons (.v 1) .nil)) .nil))))
  (.cons (.asg (.tup (.cons (.nm 5) (.cons (.nm 6) .nil))) (.ix (.v 1) (.v 3)))
  (.cons (.asg (.nm 4) (.call i_law_take (.cons (.v 0) (.cons (.bin .Add (.bc .len (.cons (.v 6) .nil)) (.c (.int 1))) .nil))))
  (.cons (.ite (.cmp .Eq (.v 2) (.c (.int 1))) (.cons (.ret (.bin .Add (.sl (.v 1) .no (.so (.v 3))) (.sl (.v 1) (.so (.bin .Add (.v 3) (.c (.int 1)))) .no)))
  .nil) .nil)
  (.cons (.ite (.cmp .Eq (.v 2) (.c (.int 2))) (.cons (.ret (.bin .Add (.bin .Add (.sl (.v 1) .no (.so (.v 3))) (.lst (.cons (.tup (.cons (.v 5) (.cons (.bin .Add (.sl (.v 6) .no (.so (.v 4))) (.sl (.v 6) (.so (.bin .Add (.v 4) (.c (.int 1)))) .no)) .nil))) .nil))) (.sl (.v 1) (.so (.bin .Add (.v 3) (.c (.int 1)))) .no)))
  .nil) .nil)
  (.cons (.ite (.cmp .Eq (.v 2) (.c (.int 3))) (.cons (.ret (.bin .Add (.bin .Add (.sl (.v 1) .no (.so (.v 3))) (.lst (.cons (.tup (.cons (.v 5) (.cons (.bin .Add (.bin .Add (.sl (.v 6) .no (.so (.v 4))) (.lst (.cons (.call i_law_strange (.cons (.v 0) .nil)) .nil))) (.sl (.v 6) (.so (.v 4)) .no)) .nil))) .nil))) (.sl (.v 1) (.so (.bin .Add (.v 3) (.c (.int 1)))) .no)))
  .nil) .nil)
  (.cons (.ite (.cmp .Eq (.v 2) (.c (.int 4))) (.cons (.ret (.bin .Add (.bin .Add (.sl (.v 1) .no (.so (.v 3))) (.lst (.cons (.tup (.cons (.bin .Add (.bc .list (.cons (.v 5) .nil)) (.lst (.cons (.call i_law_strange (.cons (.v 0) .nil)) .nil))) (.cons (.v 6) .nil))) .nil))) (.sl (.v 1) (.so (.bin .Add (.v 3) (.c (.int 1)))) .no)))
  .nil) .nil)
  (.cons (.ite (.cmp .Eq (.v 2) (.c (.int 5))) (.cons (.ret (.bc .tuple (.cons (.lc (.lst (.cons (.bc .list (.cons (.ix (.v 7) (.c (.int 0))) .nil)) (.cons (.bc .tuple (.cons (.ix (.v 7) (.c (.int 1))) .nil)) .nil))) (.nm 7) (.lst (.v 1)) .no [7]) .nil)))
  .nil) .nil)
  (.cons (.ite (.cmp .Eq (.v 2) (.c (.int 6))) (.cons (.ret (.bin .Add (.bin .Add (.sl (.v 1) .no (.so (.v 3))) (.lst (.cons (.call i_law_strange (.cons (.v 0) .nil)) .nil))) (.sl (.v 1) (.so (.v 3)) .no)))
  .nil) .nil)
  (.cons (.ite (.cmp .Eq (.v 2) (.c (.int 7))) (.cons (.ret (.bin .Add (.v 1) (.lst (.cons (.tup (.cons (.v 5) (.cons (.v 6) .nil))) .nil))))
  .nil) .nil)
  (.cons (.ite (.cmp .Eq (.v 2) (.c (.int 8))) (.cons (.ret (.bin .Add (.bin .Add (.sl (.v 1) .no (.so (.v 3))) (.lst (.cons (.tup (.cons (.v 5) (.cons (.bin .Add (.bin .Add (.sl (.v 6) .no (.so (.v 4))) (.lst (.cons (.call i_law_take (.cons (.v 0) (.cons (.c (.int 12)) .nil))) .nil))) (.sl (.v 6) (.so (.v 4)) .no)) .nil))) .nil))) (.sl (.v 1) (.so (.bin .Add (.v 3) (.c (.int 1)))) .no)))
  .nil) .nil)
  (.cons (.ret (.v 1))
  .nil))))))))))))))
def d_law_bent : Df := ⟨["_law_state_here", "_law_steps"], ["_law_state_here", "_law_steps", "_law_choice", "_law_at", "_law_place", "_law_clause_here", "_law_hints", "_law_step_here"], b_law_bent, []⟩
/-- law: 0 _law_script, 1 _law_state_here, 2 _law_clauses, 3 _law_steps, 4 _law_value, 5 _law_kept, 6 _law_right_here, 7 _law_answer, 8 _law_told, 9 _law_k, 10 _law_step_here -/
def b_law : Sms := (.cons (.asg (.nm 1) (.call i_law_state (.cons (.v 0) .nil)))
  (.cons (.asl 2 (.call i_law_clause (.cons (.v 1) (.cons (.c (.int 3)) (.cons (.bin .Add (.c (.int 1)) (.call i_law_take (.cons (.v 1) (.cons (.c (.int 3)) .nil)))) .nil)))) (.nm 9) (.rng1 (.call i_law_take (.cons (.v 1) (.cons (.c (.int 10)) .nil)))) .no [9])
  (.cons (.ite (.cmp .Eq (.call i_law_take (.cons (.v 1) (.cons (.c (.int 2)) .nil))) (.c (.int 0))) (.cons (.asg (.nm 2) (.bin .Add (.v 2) (.lst (.cons (.tup (.cons (.c (.int 1)) (.cons (.c (.int 2)) .nil))) (.cons (.tup (.cons (.c (.int 1)) (.cons (.neg (.c (.int 2))) .nil))) (.cons (.tup (.cons (.neg (.c (.int 1))) (.cons (.c (.int 3)) .nil))) (.cons (.tup (.cons (.neg (.c (.int 1))) (.cons (.neg (.c (.int 3))) .nil))) .nil)))))))
  .nil) .nil)
  (.cons (.asg (.tup (.cons (.nm 7) (.cons (.nm 8) .nil))) (.call i_solve (.cons (.v 2) (.cons (.c (.int 3)) (.cons (.c (.int 50)) .nil)))))
  (.cons (.asg (.nm 3) (.lst (.cons (.tup (.cons (.tup .nil) (.cons (.lst (.cons (.c (.int 0)) .nil)) .nil))) .nil)))
  (.cons (.ite (.cmp .Eq (.v 7) (.c (.str (S [114, 101, 102, 117, 116, 101, 100])))) (.cons (.asl 3 (.tup (.cons (.bc .tuple (.cons (.ix (.v 10) (.c (.int 0))) .nil)) (.cons (.bc .list (.cons (.ix (.v 10) (.c (.int 1))) .nil)) .nil))) (.nm 10) (.lst (.v 8)) .no [10])
  .nil) .nil)
  (.cons (.asg (.nm 4) (.call i_law_bent (.cons (.v 1) (.cons (.v 3) .nil))))
  (.cons (.asg (.nm 5) (.bc .repr (.cons (.tup (.cons (.v 2) (.cons (.v 4) .nil))) .nil)))
  (.cons (.asg (.nm 6) (.call i_check_refutation (.cons (.v 2) (.cons (.v 4) .nil))))
  (.cons (.ite (.or (.cmp .NotEq (.bc .repr (.cons (.v 6) .nil)) (.bc .repr (.cons (.call i_law_right (.cons (.v 2) (.cons (.v 4) .nil))) .nil))) (.cmp .NotEq (.bc .repr (.cons (.tup (.cons (.v 2) (.cons (.v 4) .nil))) .nil)) (.v 5))) (.cons (.ret (.c (.bl false)))
  .nil) .nil)
  (.cons (.ret (.or (.not (.v 6)) (.cmp .Eq (.call i_law_models (.cons (.v 2) (.cons (.c (.int 3)) .nil))) (.lst .nil))))
  .nil)))))))))))
def d_law : Df := ⟨["_law_script"], ["_law_script", "_law_state_here", "_law_clauses", "_law_steps", "_law_value", "_law_kept", "_law_right_here", "_law_answer", "_law_told", "_law_k", "_law_step_here"], b_law, []⟩
def Dl : List Df := [d_open_terms, d_check_step, d_is_integer, d_is_row, d_are_integers, d_is_step, d_check_refutation, d_distinct, d_Solver_init, d_Solver_note, d_Solver_add, d_Solver_open_terms, d_Solver_look, d_Solver_begin, d_Solver_propagate, d_Solver_marked_terms, d_Solver_learn, d_Solver_cut, d_Solver_decide, d_Solver_assignment, d_solve, d_law_state, d_law_take, d_law_clause, d_law_true, d_law_all, d_law_models, d_law_ints, d_law_step, d_law_right, d_law_strange, d_law_bent, d_law]
def D (i : Nat) : Df := Dl.getD i ⟨[], [], .nil, []⟩
theorem in_open_terms {v : Ev} {n : Nat} {x0 x1 : V} {H : Hp} {Q : VK} {E : XK} (h : b_open_terms.den (evAt v D n) (fun c d _ H1 => E c d H1) ⟨fun _ H1 => Q .non H1, Q, fun _ _ => False, fun _ _ => False⟩ [some x0, some x1, none, none] H) : spOf v D (n + 1) i_open_terms [x0, x1] H Q E := r_in (f := i_open_terms) (b := b_open_terms) (N := ["clause", "assumed", "result", "term"]) (ps := ["clause", "assumed"]) (kw := []) rfl rfl rfl h
theorem in_check_step {v : Ev} {n : Nat} {x0 x1 x2 : V} {H : Hp} {Q : VK} {E : XK} (h : b_check_step.den (evAt v D n) (fun c d _ H1 => E c d H1) ⟨fun _ H1 => Q .non H1, Q, fun _ _ => False, fun _ _ => False⟩ [some x0, some x1, some x2, none, none, none, none] H) : spOf v D (n + 1) i_check_step [x0, x1, x2] H Q E := r_in (f := i_check_step) (b := b_check_step) (N := ["clauses", "clause", "hints", "assumed", "term", "hint", "terms"]) (ps := ["clauses", "clause", "hints"]) (kw := []) rfl rfl rfl h
theorem in_is_integer {v : Ev} {n : Nat} {x0 : V} {H : Hp} {Q : VK} {E : XK} (h : b_is_integer.den (evAt v D n) (fun c d _ H1 => E c d H1) ⟨fun _ H1 => Q .non H1, Q, fun _ _ => False, fun _ _ => False⟩ [some x0] H) : spOf v D (n + 1) i_is_integer [x0] H Q E := r_in (f := i_is_integer) (b := b_is_integer) (N := ["value"]) (ps := ["value"]) (kw := []) rfl rfl rfl h
theorem in_is_row {v : Ev} {n : Nat} {x0 : V} {H : Hp} {Q : VK} {E : XK} (h : b_is_row.den (evAt v D n) (fun c d _ H1 => E c d H1) ⟨fun _ H1 => Q .non H1, Q, fun _ _ => False, fun _ _ => False⟩ [some x0] H) : spOf v D (n + 1) i_is_row [x0] H Q E := r_in (f := i_is_row) (b := b_is_row) (N := ["value"]) (ps := ["value"]) (kw := []) rfl rfl rfl h
theorem in_are_integers {v : Ev} {n : Nat} {x0 : V} {H : Hp} {Q : VK} {E : XK} (h : b_are_integers.den (evAt v D n) (fun c d _ H1 => E c d H1) ⟨fun _ H1 => Q .non H1, Q, fun _ _ => False, fun _ _ => False⟩ [some x0, none] H) : spOf v D (n + 1) i_are_integers [x0] H Q E := r_in (f := i_are_integers) (b := b_are_integers) (N := ["value", "item"]) (ps := ["value"]) (kw := []) rfl rfl rfl h
theorem in_is_step {v : Ev} {n : Nat} {x0 : V} {H : Hp} {Q : VK} {E : XK} (h : b_is_step.den (evAt v D n) (fun c d _ H1 => E c d H1) ⟨fun _ H1 => Q .non H1, Q, fun _ _ => False, fun _ _ => False⟩ [some x0] H) : spOf v D (n + 1) i_is_step [x0] H Q E := r_in (f := i_is_step) (b := b_is_step) (N := ["value"]) (ps := ["value"]) (kw := []) rfl rfl rfl h
theorem in_check_refutation {v : Ev} {n : Nat} {x0 x1 : V} {H : Hp} {Q : VK} {E : XK} (h : b_check_refutation.den (evAt v D n) (fun c d _ H1 => E c d H1) ⟨fun _ H1 => Q .non H1, Q, fun _ _ => False, fun _ _ => False⟩ [some x0, some x1, none, none] H) : spOf v D (n + 1) i_check_refutation [x0, x1] H Q E := r_in (f := i_check_refutation) (b := b_check_refutation) (N := ["clauses", "refutation", "known", "step"]) (ps := ["clauses", "refutation"]) (kw := []) rfl rfl rfl h
theorem in_distinct {v : Ev} {n : Nat} {x0 : V} {H : Hp} {Q : VK} {E : XK} (h : b_distinct.den (evAt v D n) (fun c d _ H1 => E c d H1) ⟨fun _ H1 => Q .non H1, Q, fun _ _ => False, fun _ _ => False⟩ [some x0, none, none] H) : spOf v D (n + 1) i_distinct [x0] H Q E := r_in (f := i_distinct) (b := b_distinct) (N := ["clause", "result", "term"]) (ps := ["clause"]) (kw := []) rfl rfl rfl h
theorem in_Solver_init {v : Ev} {n : Nat} {x0 x1 x2 : V} {H : Hp} {Q : VK} {E : XK} (h : b_Solver_init.den (evAt v D n) (fun c d _ H1 => E c d H1) ⟨fun _ H1 => Q .non H1, Q, fun _ _ => False, fun _ _ => False⟩ [some x0, some x1, some x2, none, none] H) : spOf v D (n + 1) i_Solver_init [x0, x1, x2] H Q E := r_in (f := i_Solver_init) (b := b_Solver_init) (N := ["self", "clauses", "variables", "number", "clause"]) (ps := ["self", "clauses", "variables"]) (kw := []) rfl rfl rfl h
theorem in_Solver_note {v : Ev} {n : Nat} {x0 x1 : V} {H : Hp} {Q : VK} {E : XK} (h : b_Solver_note.den (evAt v D n) (fun c d _ H1 => E c d H1) ⟨fun _ H1 => Q .non H1, Q, fun _ _ => False, fun _ _ => False⟩ [some x0, some x1, none] H) : spOf v D (n + 1) i_Solver_note [x0, x1] H Q E := r_in (f := i_Solver_note) (b := b_Solver_note) (N := ["self", "number", "term"]) (ps := ["self", "number"]) (kw := []) rfl rfl rfl h
theorem in_Solver_add {v : Ev} {n : Nat} {x0 x1 x2 : V} {H : Hp} {Q : VK} {E : XK} (h : b_Solver_add.den (evAt v D n) (fun c d _ H1 => E c d H1) ⟨fun _ H1 => Q .non H1, Q, fun _ _ => False, fun _ _ => False⟩ [some x0, some x1, some x2] H) : spOf v D (n + 1) i_Solver_add [x0, x1, x2] H Q E := r_in (f := i_Solver_add) (b := b_Solver_add) (N := ["self", "term", "reason"]) (ps := ["self", "term", "reason"]) (kw := []) rfl rfl rfl h
theorem in_Solver_open_terms {v : Ev} {n : Nat} {x0 x1 : V} {H : Hp} {Q : VK} {E : XK} (h : b_Solver_open_terms.den (evAt v D n) (fun c d _ H1 => E c d H1) ⟨fun _ H1 => Q .non H1, Q, fun _ _ => False, fun _ _ => False⟩ [some x0, some x1, none, none] H) : spOf v D (n + 1) i_Solver_open_terms [x0, x1] H Q E := r_in (f := i_Solver_open_terms) (b := b_Solver_open_terms) (N := ["self", "clause", "result", "term"]) (ps := ["self", "clause"]) (kw := []) rfl rfl rfl h
theorem in_Solver_look {v : Ev} {n : Nat} {x0 x1 : V} {H : Hp} {Q : VK} {E : XK} (h : b_Solver_look.den (evAt v D n) (fun c d _ H1 => E c d H1) ⟨fun _ H1 => Q .non H1, Q, fun _ _ => False, fun _ _ => False⟩ [some x0, some x1, none] H) : spOf v D (n + 1) i_Solver_look [x0, x1] H Q E := r_in (f := i_Solver_look) (b := b_Solver_look) (N := ["self", "number", "terms"]) (ps := ["self", "number"]) (kw := []) rfl rfl rfl h
theorem in_Solver_begin {v : Ev} {n : Nat} {x0 : V} {H : Hp} {Q : VK} {E : XK} (h : b_Solver_begin.den (evAt v D n) (fun c d _ H1 => E c d H1) ⟨fun _ H1 => Q .non H1, Q, fun _ _ => False, fun _ _ => False⟩ [some x0, none] H) : spOf v D (n + 1) i_Solver_begin [x0] H Q E := r_in (f := i_Solver_begin) (b := b_Solver_begin) (N := ["self", "number"]) (ps := ["self"]) (kw := []) rfl rfl rfl h
theorem in_Solver_propagate {v : Ev} {n : Nat} {x0 : V} {H : Hp} {Q : VK} {E : XK} (h : b_Solver_propagate.den (evAt v D n) (fun c d _ H1 => E c d H1) ⟨fun _ H1 => Q .non H1, Q, fun _ _ => False, fun _ _ => False⟩ [some x0, none, none] H) : spOf v D (n + 1) i_Solver_propagate [x0] H Q E := r_in (f := i_Solver_propagate) (b := b_Solver_propagate) (N := ["self", "term", "number"]) (ps := ["self"]) (kw := []) rfl rfl rfl h
theorem in_Solver_marked_terms {v : Ev} {n : Nat} {x0 x1 : V} {H : Hp} {Q : VK} {E : XK} (h : b_Solver_marked_terms.den (evAt v D n) (fun c d _ H1 => E c d H1) ⟨fun _ H1 => Q .non H1, Q, fun _ _ => False, fun _ _ => False⟩ [some x0, some x1, none, none, none, none] H) : spOf v D (n + 1) i_Solver_marked_terms [x0, x1] H Q E := r_in (f := i_Solver_marked_terms) (b := b_Solver_marked_terms) (N := ["self", "conflict", "marked", "term", "reason", "other"]) (ps := ["self", "conflict"]) (kw := []) rfl rfl rfl h
theorem in_Solver_learn {v : Ev} {n : Nat} {x0 x1 : V} {H : Hp} {Q : VK} {E : XK} (h : b_Solver_learn.den (evAt v D n) (fun c d _ H1 => E c d H1) ⟨fun _ H1 => Q .non H1, Q, fun _ _ => False, fun _ _ => False⟩ [some x0, some x1, none, none, none, none, none] H) : spOf v D (n + 1) i_Solver_learn [x0, x1] H Q E := r_in (f := i_Solver_learn) (b := b_Solver_learn) (N := ["self", "conflict", "marked", "decisions", "hints", "clause", "term"]) (ps := ["self", "conflict"]) (kw := []) rfl rfl rfl h
theorem in_Solver_cut {v : Ev} {n : Nat} {x0 x1 : V} {H : Hp} {Q : VK} {E : XK} (h : b_Solver_cut.den (evAt v D n) (fun c d _ H1 => E c d H1) ⟨fun _ H1 => Q .non H1, Q, fun _ _ => False, fun _ _ => False⟩ [some x0, some x1, none] H) : spOf v D (n + 1) i_Solver_cut [x0, x1] H Q E := r_in (f := i_Solver_cut) (b := b_Solver_cut) (N := ["self", "decision", "last"]) (ps := ["self", "decision"]) (kw := []) rfl rfl rfl h
theorem in_Solver_decide {v : Ev} {n : Nat} {x0 : V} {H : Hp} {Q : VK} {E : XK} (h : b_Solver_decide.den (evAt v D n) (fun c d _ H1 => E c d H1) ⟨fun _ H1 => Q .non H1, Q, fun _ _ => False, fun _ _ => False⟩ [some x0, none] H) : spOf v D (n + 1) i_Solver_decide [x0] H Q E := r_in (f := i_Solver_decide) (b := b_Solver_decide) (N := ["self", "variable"]) (ps := ["self"]) (kw := []) rfl rfl rfl h
theorem in_Solver_assignment {v : Ev} {n : Nat} {x0 : V} {H : Hp} {Q : VK} {E : XK} (h : b_Solver_assignment.den (evAt v D n) (fun c d _ H1 => E c d H1) ⟨fun _ H1 => Q .non H1, Q, fun _ _ => False, fun _ _ => False⟩ [some x0, none, none] H) : spOf v D (n + 1) i_Solver_assignment [x0] H Q E := r_in (f := i_Solver_assignment) (b := b_Solver_assignment) (N := ["self", "result", "variable"]) (ps := ["self"]) (kw := []) rfl rfl rfl h
theorem in_solve {v : Ev} {n : Nat} {x0 x1 x2 : V} {H : Hp} {Q : VK} {E : XK} (h : b_solve.den (evAt v D n) (fun c d _ H1 => E c d H1) ⟨fun _ H1 => Q .non H1, Q, fun _ _ => False, fun _ _ => False⟩ [some x0, some x1, some x2, none, none, none] H) : spOf v D (n + 1) i_solve [x0, x1, x2] H Q E := r_in (f := i_solve) (b := b_solve) (N := ["clauses", "variables", "limit", "solver", "conflicts", "conflict"]) (ps := ["clauses", "variables", "limit"]) (kw := []) rfl rfl rfl h
theorem in_law_state {v : Ev} {n : Nat} {x0 : V} {H : Hp} {Q : VK} {E : XK} (h : b_law_state.den (evAt v D n) (fun c d _ H1 => E c d H1) ⟨fun _ H1 => Q .non H1, Q, fun _ _ => False, fun _ _ => False⟩ [some x0, none, none] H) : spOf v D (n + 1) i_law_state [x0] H Q E := r_in (f := i_law_state) (b := b_law_state) (N := ["_law_script", "_law_cells", "_law_cell"]) (ps := ["_law_script"]) (kw := []) rfl rfl rfl h
theorem in_law_take {v : Ev} {n : Nat} {x0 x1 : V} {H : Hp} {Q : VK} {E : XK} (h : b_law_take.den (evAt v D n) (fun c d _ H1 => E c d H1) ⟨fun _ H1 => Q .non H1, Q, fun _ _ => False, fun _ _ => False⟩ [some x0, some x1, none, none, none, none] H) : spOf v D (n + 1) i_law_take [x0, x1] H Q E := r_in (f := i_law_take) (b := b_law_take) (N := ["_law_state_here", "_law_most", "_law_cells", "_law_at", "_law_cell", "_law_mixed"]) (ps := ["_law_state_here", "_law_most"]) (kw := []) rfl rfl rfl h
theorem in_law_clause {v : Ev} {n : Nat} {x0 x1 x2 : V} {H : Hp} {Q : VK} {E : XK} (h : b_law_clause.den (evAt v D n) (fun c d _ H1 => E c d H1) ⟨fun _ H1 => Q .non H1, Q, fun _ _ => False, fun _ _ => False⟩ [some x0, some x1, some x2, none, none, none] H) : spOf v D (n + 1) i_law_clause [x0, x1, x2] H Q E := r_in (f := i_law_clause) (b := b_law_clause) (N := ["_law_state_here", "_law_variables", "_law_size", "_law_clause_here", "_law_k", "_law_variable"]) (ps := ["_law_state_here", "_law_variables", "_law_size"]) (kw := []) rfl rfl rfl h
theorem in_law_true {v : Ev} {n : Nat} {x0 x1 : V} {H : Hp} {Q : VK} {E : XK} (h : b_law_true.den (evAt v D n) (fun c d _ H1 => E c d H1) ⟨fun _ H1 => Q .non H1, Q, fun _ _ => False, fun _ _ => False⟩ [some x0, some x1, none] H) : spOf v D (n + 1) i_law_true [x0, x1] H Q E := r_in (f := i_law_true) (b := b_law_true) (N := ["_law_clause_here", "_law_bits_here", "_law_term"]) (ps := ["_law_clause_here", "_law_bits_here"]) (kw := []) rfl rfl rfl h
theorem in_law_all {v : Ev} {n : Nat} {x0 x1 : V} {H : Hp} {Q : VK} {E : XK} (h : b_law_all.den (evAt v D n) (fun c d _ H1 => E c d H1) ⟨fun _ H1 => Q .non H1, Q, fun _ _ => False, fun _ _ => False⟩ [some x0, some x1, none] H) : spOf v D (n + 1) i_law_all [x0, x1] H Q E := r_in (f := i_law_all) (b := b_law_all) (N := ["_law_clauses", "_law_bits_here", "_law_clause_here"]) (ps := ["_law_clauses", "_law_bits_here"]) (kw := []) rfl rfl rfl h
theorem in_law_models {v : Ev} {n : Nat} {x0 x1 : V} {H : Hp} {Q : VK} {E : XK} (h : b_law_models.den (evAt v D n) (fun c d _ H1 => E c d H1) ⟨fun _ H1 => Q .non H1, Q, fun _ _ => False, fun _ _ => False⟩ [some x0, some x1, none, none, none, none] H) : spOf v D (n + 1) i_law_models [x0, x1] H Q E := r_in (f := i_law_models) (b := b_law_models) (N := ["_law_clauses", "_law_variables", "_law_models_here", "_law_number", "_law_bits_here", "_law_k"]) (ps := ["_law_clauses", "_law_variables"]) (kw := []) rfl rfl rfl h
theorem in_law_ints {v : Ev} {n : Nat} {x0 : V} {H : Hp} {Q : VK} {E : XK} (h : b_law_ints.den (evAt v D n) (fun c d _ H1 => E c d H1) ⟨fun _ H1 => Q .non H1, Q, fun _ _ => False, fun _ _ => False⟩ [some x0, none] H) : spOf v D (n + 1) i_law_ints [x0] H Q E := r_in (f := i_law_ints) (b := b_law_ints) (N := ["_law_value", "_law_item"]) (ps := ["_law_value"]) (kw := []) rfl rfl rfl h
theorem in_law_step {v : Ev} {n : Nat} {x0 x1 : V} {H : Hp} {Q : VK} {E : XK} (h : b_law_step.den (evAt v D n) (fun c d _ H1 => E c d H1) ⟨fun _ H1 => Q .non H1, Q, fun _ _ => False, fun _ _ => False⟩ [some x0, some x1, none, none, none, none] H) : spOf v D (n + 1) i_law_step [x0, x1] H Q E := r_in (f := i_law_step) (b := b_law_step) (N := ["_law_clauses", "_law_value", "_law_assumed", "_law_hint", "_law_terms", "_law_term"]) (ps := ["_law_clauses", "_law_value"]) (kw := []) rfl rfl rfl h
theorem in_law_right {v : Ev} {n : Nat} {x0 x1 : V} {H : Hp} {Q : VK} {E : XK} (h : b_law_right.den (evAt v D n) (fun c d _ H1 => E c d H1) ⟨fun _ H1 => Q .non H1, Q, fun _ _ => False, fun _ _ => False⟩ [some x0, some x1, none, none] H) : spOf v D (n + 1) i_law_right [x0, x1] H Q E := r_in (f := i_law_right) (b := b_law_right) (N := ["_law_clauses", "_law_value", "_law_known", "_law_step_here"]) (ps := ["_law_clauses", "_law_value"]) (kw := []) rfl rfl rfl h
theorem in_law_strange {v : Ev} {n : Nat} {x0 : V} {H : Hp} {Q : VK} {E : XK} (h : b_law_strange.den (evAt v D n) (fun c d _ H1 => E c d H1) ⟨fun _ H1 => Q .non H1, Q, fun _ _ => False, fun _ _ => False⟩ [some x0, none] H) : spOf v D (n + 1) i_law_strange [x0] H Q E := r_in (f := i_law_strange) (b := b_law_strange) (N := ["_law_state_here", "_law_things"]) (ps := ["_law_state_here"]) (kw := []) rfl rfl rfl h
theorem in_law_bent {v : Ev} {n : Nat} {x0 x1 : V} {H : Hp} {Q : VK} {E : XK} (h : b_law_bent.den (evAt v D n) (fun c d _ H1 => E c d H1) ⟨fun _ H1 => Q .non H1, Q, fun _ _ => False, fun _ _ => False⟩ [some x0, some x1, none, none, none, none, none, none] H) : spOf v D (n + 1) i_law_bent [x0, x1] H Q E := r_in (f := i_law_bent) (b := b_law_bent) (N := ["_law_state_here", "_law_steps", "_law_choice", "_law_at", "_law_place", "_law_clause_here", "_law_hints", "_law_step_here"]) (ps := ["_law_state_here", "_law_steps"]) (kw := []) rfl rfl rfl h
theorem in_law {v : Ev} {n : Nat} {x0 : V} {H : Hp} {Q : VK} {E : XK} (h : b_law.den (evAt v D n) (fun c d _ H1 => E c d H1) ⟨fun _ H1 => Q .non H1, Q, fun _ _ => False, fun _ _ => False⟩ [some x0, none, none, none, none, none, none, none, none, none, none] H) : spOf v D (n + 1) i_law [x0] H Q E := r_in (f := i_law) (b := b_law) (N := ["_law_script", "_law_state_here", "_law_clauses", "_law_steps", "_law_value", "_law_kept", "_law_right_here", "_law_answer", "_law_told", "_law_k", "_law_step_here"]) (ps := ["_law_script"]) (kw := []) rfl rfl rfl h
def ck : CK where
  N := []
  sc := ⟨.function, [], false, false, []⟩
  fn := fun i => ([("open_terms" : Str), ("check_step" : Str), ("is_integer" : Str), ("is_row" : Str), ("are_integers" : Str), ("is_step" : Str), ("check_refutation" : Str), ("distinct" : Str), ("__init__" : Str), ("note" : Str), ("add" : Str), ("open_terms" : Str), ("look" : Str), ("begin" : Str), ("propagate" : Str), ("marked_terms" : Str), ("learn" : Str), ("cut" : Str), ("decide" : Str), ("assignment" : Str), ("solve" : Str), ("_law_state" : Str), ("_law_take" : Str), ("_law_clause" : Str), ("_law_true" : Str), ("_law_all" : Str), ("_law_models" : Str), ("_law_ints" : Str), ("_law_step" : Str), ("_law_right" : Str), ("_law_strange" : Str), ("_law_bent" : Str), ("law" : Str)] : List Str).getD i ""
  cn := fun i => (["Solver"] : List Str).getD i ""
  gn := fun i => ([] : List Str).getD i ""
  calls := [0, 3, 2, 4, 5, 1, 7, 22, 24, 25, 27, 28, 30, 21, 23, 20, 31, 6, 29, 26, 32]
  mths := [(0, 9, "note"), (0, 11, "open_terms"), (0, 10, "add"), (0, 12, "look"), (0, 15, "marked_terms"), (0, 17, "cut"), (0, 13, "begin"), (0, 14, "propagate"), (0, 16, "learn"), (0, 18, "decide"), (0, 19, "assignment")]
  mks := [(0, 8)]
  flds := [(0, "clauses"), (0, "variables"), (0, "trail"), (0, "reasons"), (0, "handled"), (0, "steps"), (0, "users")]
  gls := []
  kw := fun i => (D i).kw
abbrev s_open_terms : Stmt := topS 1
theorem sc_open_terms : C8.scC d_open_terms.N d_open_terms.ps (defScope s_open_terms) = true := by decide +kernel
theorem ck_open_terms : d_open_terms.body.chk { ck with N := d_open_terms.N, sc := defScope s_open_terms, blk := false } (defBody s_open_terms) = true := by decide +kernel
abbrev s_check_step : Stmt := topS 2
theorem sc_check_step : C8.scC d_check_step.N d_check_step.ps (defScope s_check_step) = true := by decide +kernel
theorem ck_check_step : d_check_step.body.chk { ck with N := d_check_step.N, sc := defScope s_check_step, blk := false } (defBody s_check_step) = true := by decide +kernel
abbrev s_is_integer : Stmt := topS 3
theorem sc_is_integer : C8.scC d_is_integer.N d_is_integer.ps (defScope s_is_integer) = true := by decide +kernel
theorem ck_is_integer : d_is_integer.body.chk { ck with N := d_is_integer.N, sc := defScope s_is_integer, blk := false } (defBody s_is_integer) = true := by decide +kernel
abbrev s_is_row : Stmt := topS 4
theorem sc_is_row : C8.scC d_is_row.N d_is_row.ps (defScope s_is_row) = true := by decide +kernel
theorem ck_is_row : d_is_row.body.chk { ck with N := d_is_row.N, sc := defScope s_is_row, blk := false } (defBody s_is_row) = true := by decide +kernel
abbrev s_are_integers : Stmt := topS 5
theorem sc_are_integers : C8.scC d_are_integers.N d_are_integers.ps (defScope s_are_integers) = true := by decide +kernel
theorem ck_are_integers : d_are_integers.body.chk { ck with N := d_are_integers.N, sc := defScope s_are_integers, blk := false } (defBody s_are_integers) = true := by decide +kernel
abbrev s_is_step : Stmt := topS 6
theorem sc_is_step : C8.scC d_is_step.N d_is_step.ps (defScope s_is_step) = true := by decide +kernel
theorem ck_is_step : d_is_step.body.chk { ck with N := d_is_step.N, sc := defScope s_is_step, blk := false } (defBody s_is_step) = true := by decide +kernel
abbrev s_check_refutation : Stmt := topS 7
theorem sc_check_refutation : C8.scC d_check_refutation.N d_check_refutation.ps (defScope s_check_refutation) = true := by decide +kernel
theorem ck_check_refutation : d_check_refutation.body.chk { ck with N := d_check_refutation.N, sc := defScope s_check_refutation, blk := false } (defBody s_check_refutation) = true := by decide +kernel
abbrev s_distinct : Stmt := topS 9
theorem sc_distinct : C8.scC d_distinct.N d_distinct.ps (defScope s_distinct) = true := by decide +kernel
theorem ck_distinct : d_distinct.body.chk { ck with N := d_distinct.N, sc := defScope s_distinct, blk := false } (defBody s_distinct) = true := by decide +kernel
abbrev s_Solver_init : Stmt := inClass (topS 10) 0
theorem sc_Solver_init : C8.scC d_Solver_init.N d_Solver_init.ps (defScope s_Solver_init) = true := by decide +kernel
theorem ck_Solver_init : d_Solver_init.body.chk { ck with N := d_Solver_init.N, sc := defScope s_Solver_init, blk := false } (defBody s_Solver_init) = true := by decide +kernel
abbrev s_Solver_note : Stmt := inClass (topS 10) 1
theorem sc_Solver_note : C8.scC d_Solver_note.N d_Solver_note.ps (defScope s_Solver_note) = true := by decide +kernel
theorem ck_Solver_note : d_Solver_note.body.chk { ck with N := d_Solver_note.N, sc := defScope s_Solver_note, blk := false } (defBody s_Solver_note) = true := by decide +kernel
abbrev s_Solver_add : Stmt := inClass (topS 10) 2
theorem sc_Solver_add : C8.scC d_Solver_add.N d_Solver_add.ps (defScope s_Solver_add) = true := by decide +kernel
theorem ck_Solver_add : d_Solver_add.body.chk { ck with N := d_Solver_add.N, sc := defScope s_Solver_add, blk := false } (defBody s_Solver_add) = true := by decide +kernel
abbrev s_Solver_open_terms : Stmt := inClass (topS 10) 3
theorem sc_Solver_open_terms : C8.scC d_Solver_open_terms.N d_Solver_open_terms.ps (defScope s_Solver_open_terms) = true := by decide +kernel
theorem ck_Solver_open_terms : d_Solver_open_terms.body.chk { ck with N := d_Solver_open_terms.N, sc := defScope s_Solver_open_terms, blk := false } (defBody s_Solver_open_terms) = true := by decide +kernel
abbrev s_Solver_look : Stmt := inClass (topS 10) 4
theorem sc_Solver_look : C8.scC d_Solver_look.N d_Solver_look.ps (defScope s_Solver_look) = true := by decide +kernel
theorem ck_Solver_look : d_Solver_look.body.chk { ck with N := d_Solver_look.N, sc := defScope s_Solver_look, blk := false } (defBody s_Solver_look) = true := by decide +kernel
abbrev s_Solver_begin : Stmt := inClass (topS 10) 5
theorem sc_Solver_begin : C8.scC d_Solver_begin.N d_Solver_begin.ps (defScope s_Solver_begin) = true := by decide +kernel
theorem ck_Solver_begin : d_Solver_begin.body.chk { ck with N := d_Solver_begin.N, sc := defScope s_Solver_begin, blk := false } (defBody s_Solver_begin) = true := by decide +kernel
abbrev s_Solver_propagate : Stmt := inClass (topS 10) 6
theorem sc_Solver_propagate : C8.scC d_Solver_propagate.N d_Solver_propagate.ps (defScope s_Solver_propagate) = true := by decide +kernel
theorem ck_Solver_propagate : d_Solver_propagate.body.chk { ck with N := d_Solver_propagate.N, sc := defScope s_Solver_propagate, blk := false } (defBody s_Solver_propagate) = true := by decide +kernel
abbrev s_Solver_marked_terms : Stmt := inClass (topS 10) 7
theorem sc_Solver_marked_terms : C8.scC d_Solver_marked_terms.N d_Solver_marked_terms.ps (defScope s_Solver_marked_terms) = true := by decide +kernel
theorem ck_Solver_marked_terms : d_Solver_marked_terms.body.chk { ck with N := d_Solver_marked_terms.N, sc := defScope s_Solver_marked_terms, blk := false } (defBody s_Solver_marked_terms) = true := by decide +kernel
abbrev s_Solver_learn : Stmt := inClass (topS 10) 8
theorem sc_Solver_learn : C8.scC d_Solver_learn.N d_Solver_learn.ps (defScope s_Solver_learn) = true := by decide +kernel
theorem ck_Solver_learn : d_Solver_learn.body.chk { ck with N := d_Solver_learn.N, sc := defScope s_Solver_learn, blk := false } (defBody s_Solver_learn) = true := by decide +kernel
abbrev s_Solver_cut : Stmt := inClass (topS 10) 9
theorem sc_Solver_cut : C8.scC d_Solver_cut.N d_Solver_cut.ps (defScope s_Solver_cut) = true := by decide +kernel
theorem ck_Solver_cut : d_Solver_cut.body.chk { ck with N := d_Solver_cut.N, sc := defScope s_Solver_cut, blk := false } (defBody s_Solver_cut) = true := by decide +kernel
abbrev s_Solver_decide : Stmt := inClass (topS 10) 10
theorem sc_Solver_decide : C8.scC d_Solver_decide.N d_Solver_decide.ps (defScope s_Solver_decide) = true := by decide +kernel
theorem ck_Solver_decide : d_Solver_decide.body.chk { ck with N := d_Solver_decide.N, sc := defScope s_Solver_decide, blk := false } (defBody s_Solver_decide) = true := by decide +kernel
abbrev s_Solver_assignment : Stmt := inClass (topS 10) 11
theorem sc_Solver_assignment : C8.scC d_Solver_assignment.N d_Solver_assignment.ps (defScope s_Solver_assignment) = true := by decide +kernel
theorem ck_Solver_assignment : d_Solver_assignment.body.chk { ck with N := d_Solver_assignment.N, sc := defScope s_Solver_assignment, blk := false } (defBody s_Solver_assignment) = true := by decide +kernel
abbrev s_solve : Stmt := topS 11
theorem sc_solve : C8.scC d_solve.N d_solve.ps (defScope s_solve) = true := by decide +kernel
theorem ck_solve : d_solve.body.chk { ck with N := d_solve.N, sc := defScope s_solve, blk := false } (defBody s_solve) = true := by decide +kernel
abbrev s_law_state : Stmt := topS 13
theorem sc_law_state : C8.scC d_law_state.N d_law_state.ps (defScope s_law_state) = true := by decide +kernel
theorem ck_law_state : d_law_state.body.chk { ck with N := d_law_state.N, sc := defScope s_law_state, blk := false } (defBody s_law_state) = true := by decide +kernel
abbrev s_law_take : Stmt := topS 14
theorem sc_law_take : C8.scC d_law_take.N d_law_take.ps (defScope s_law_take) = true := by decide +kernel
theorem ck_law_take : d_law_take.body.chk { ck with N := d_law_take.N, sc := defScope s_law_take, blk := false } (defBody s_law_take) = true := by decide +kernel
abbrev s_law_clause : Stmt := topS 16
theorem sc_law_clause : C8.scC d_law_clause.N d_law_clause.ps (defScope s_law_clause) = true := by decide +kernel
theorem ck_law_clause : d_law_clause.body.chk { ck with N := d_law_clause.N, sc := defScope s_law_clause, blk := false } (defBody s_law_clause) = true := by decide +kernel
abbrev s_law_true : Stmt := topS 17
theorem sc_law_true : C8.scC d_law_true.N d_law_true.ps (defScope s_law_true) = true := by decide +kernel
theorem ck_law_true : d_law_true.body.chk { ck with N := d_law_true.N, sc := defScope s_law_true, blk := false } (defBody s_law_true) = true := by decide +kernel
abbrev s_law_all : Stmt := topS 18
theorem sc_law_all : C8.scC d_law_all.N d_law_all.ps (defScope s_law_all) = true := by decide +kernel
theorem ck_law_all : d_law_all.body.chk { ck with N := d_law_all.N, sc := defScope s_law_all, blk := false } (defBody s_law_all) = true := by decide +kernel
abbrev s_law_models : Stmt := topS 19
theorem sc_law_models : C8.scC d_law_models.N d_law_models.ps (defScope s_law_models) = true := by decide +kernel
theorem ck_law_models : d_law_models.body.chk { ck with N := d_law_models.N, sc := defScope s_law_models, blk := false } (defBody s_law_models) = true := by decide +kernel
abbrev s_law_ints : Stmt := topS 20
theorem sc_law_ints : C8.scC d_law_ints.N d_law_ints.ps (defScope s_law_ints) = true := by decide +kernel
theorem ck_law_ints : d_law_ints.body.chk { ck with N := d_law_ints.N, sc := defScope s_law_ints, blk := false } (defBody s_law_ints) = true := by decide +kernel
abbrev s_law_step : Stmt := topS 21
theorem sc_law_step : C8.scC d_law_step.N d_law_step.ps (defScope s_law_step) = true := by decide +kernel
theorem ck_law_step : d_law_step.body.chk { ck with N := d_law_step.N, sc := defScope s_law_step, blk := false } (defBody s_law_step) = true := by decide +kernel
abbrev s_law_right : Stmt := topS 22
theorem sc_law_right : C8.scC d_law_right.N d_law_right.ps (defScope s_law_right) = true := by decide +kernel
theorem ck_law_right : d_law_right.body.chk { ck with N := d_law_right.N, sc := defScope s_law_right, blk := false } (defBody s_law_right) = true := by decide +kernel
abbrev s_law_strange : Stmt := topS 23
theorem sc_law_strange : C8.scC d_law_strange.N d_law_strange.ps (defScope s_law_strange) = true := by decide +kernel
theorem ck_law_strange : d_law_strange.body.chk { ck with N := d_law_strange.N, sc := defScope s_law_strange, blk := false } (defBody s_law_strange) = true := by decide +kernel
abbrev s_law_bent : Stmt := topS 24
theorem sc_law_bent : C8.scC d_law_bent.N d_law_bent.ps (defScope s_law_bent) = true := by decide +kernel
theorem ck_law_bent : d_law_bent.body.chk { ck with N := d_law_bent.N, sc := defScope s_law_bent, blk := false } (defBody s_law_bent) = true := by decide +kernel
abbrev s_law : Stmt := topS 25
theorem sc_law : C8.scC d_law.N d_law.ps (defScope s_law) = true := by decide +kernel
theorem ck_law : d_law.body.chk { ck with N := d_law.N, sc := defScope s_law, blk := false } (defBody s_law) = true := by decide +kernel

end LK

namespace LK
open L2 DI
open PySem.Spec
open PyProof.Rows hiding St
open PySem
local macro_rules | `(tactic| walk_at "stc") => `(tactic| first
  | ((with_reducible refine e_v ?_); refine k_v ?_)
  | with_reducible refine k_as ?_
  | with_reducible refine a_cons ?_
  | with_reducible refine r_nx ?_
  | with_reducible refine a_nil ?_
  | with_reducible refine e_c ?_
  | with_reducible refine r_asg ?_
  | ((with_reducible refine k_nm ?_); dsimp only [List.set_cons_zero, List.set_cons_succ])
  | with_reducible refine e_call ?_
  | with_reducible refine k_cl ?_
  | with_reducible refine e_ix ?_
  | with_reducible refine k_i1 ?_
  | with_reducible refine e_bin ?_
  | with_reducible refine k_b1 ?_
  | with_reducible refine e_bc ?_
  | with_reducible refine x_fld ?_
  | with_reducible refine r_exp ?_
  | with_reducible refine t_cmp ?_
  | with_reducible refine k_c1 ?_
  | with_reducible refine r_ite ?_)
local macro_rules | `(tactic| walk_at "st") => `(tactic| first
  | with_reducible refine r_one ?_
  | with_reducible refine r_sq ?_
  | with_reducible refine r_nil ?_
  | with_reducible refine r_asg ?_
  | with_reducible refine r_asl ?_
  | with_reducible refine r_exp ?_
  | with_reducible refine r_ret ?_
  | with_reducible refine r_ite ?_
  | with_reducible refine r_for ?_
  | with_reducible refine r_nx ?_
  | with_reducible refine r_pass ?_
  | with_reducible refine r_brk ?_
  | with_reducible refine r_cnt ?_
  | with_reducible refine r_retN ?_
  | ((with_reducible refine r_aug ?_); refine k_ag ?_)
  | ((with_reducible refine k_nm ?_); dsimp only [List.set_cons_zero, List.set_cons_succ])
  | ((with_reducible refine g_nm ?_); dsimp only [List.set_cons_zero, List.set_cons_succ])
  | ((with_reducible refine g_cons_nm ?_); dsimp only [List.set_cons_zero, List.set_cons_succ])
  | with_reducible refine g_cons ?_
  | with_reducible refine g_nil ?_
  | with_reducible refine g_sub ?_
  | with_reducible refine k_sub ?_
  | with_reducible refine k_tg ?_
  | ((with_reducible refine e_v ?_); refine k_v ?_)
  | with_reducible refine e_c ?_
  | with_reducible refine e_ty ?_
  | with_reducible refine e_bin ?_
  | with_reducible refine k_b1 ?_
  | with_reducible refine o_add ?_
  | with_reducible refine o_sub ?_
  | with_reducible refine o_and ?_
  | with_reducible refine o_or ?_
  | with_reducible refine o_xor ?_
  | with_reducible refine e_neg ?_
  | with_reducible refine k_neg ?_
  | with_reducible refine e_cmp ?_
  | with_reducible refine k_c1 ?_
  | with_reducible refine k_bl ?_
  | with_reducible refine c_eq ?_
  | with_reducible refine c_ne ?_
  | with_reducible refine c_lt ?_
  | with_reducible refine c_le ?_
  | with_reducible refine c_gt ?_
  | with_reducible refine c_ge ?_
  | with_reducible refine c_eqs ?_
  | with_reducible refine c_nes ?_
  | with_reducible refine c_eqb ?_
  | with_reducible refine c_neb ?_
  | with_reducible refine c_isB ?_
  | with_reducible refine c_isnB ?_
  | with_reducible refine c_isN ?_
  | with_reducible refine c_isnN ?_
  | with_reducible refine e_and ?_
  | with_reducible refine e_or ?_
  | with_reducible refine e_not ?_
  | with_reducible refine e_ite ?_
  | with_reducible refine e_tup ?_
  | with_reducible refine e_lst ?_
  | with_reducible refine e_ix ?_
  | with_reducible refine k_i1 ?_
  | with_reducible refine e_call ?_
  | with_reducible refine k_cl ?_
  | with_reducible refine e_bc ?_
  | with_reducible refine e_bm ?_
  | with_reducible refine e_lc ?_
  | with_reducible refine x_fld ?_
  | with_reducible refine r_fld ?_
  | with_reducible refine k_fs ?_
  | with_reducible refine e_meth ?_
  | with_reducible refine k_mc ?_
  | with_reducible refine e_mk ?_
  | with_reducible refine r_par ?_
  | ((with_reducible refine k_pr ?_); dsimp only [List.set_cons_zero, List.set_cons_succ])
  | with_reducible refine r_par3 ?_
  | ((with_reducible refine k_pr3 ?_); dsimp only [List.set_cons_zero, List.set_cons_succ])
  | (with_reducible refine e_gI (by assumption) ?_)
  | with_reducible refine e_d0 ?_
  | with_reducible refine e_dT0 ?_
  | with_reducible refine a_nil ?_
  | with_reducible refine a_cons ?_
  | with_reducible refine k_as ?_
  | with_reducible refine k_cn ?_
  | with_reducible refine f_int ?_
  | with_reducible refine f_intb ?_
  | with_reducible refine f_abs ?_
  | with_reducible refine f_max ?_
  | with_reducible refine f_min ?_
  | with_reducible refine t_tr ?_
  | with_reducible refine k_trb ?_
  | with_reducible refine k_tri ?_
  | with_reducible refine k_trn ?_
  | with_reducible refine t_cmp ?_
  | with_reducible refine t_and ?_
  | with_reducible refine t_or ?_
  | with_reducible refine t_not ?_
  | with_reducible refine kif_nt ?_
  | with_reducible refine kif_nf ?_
  | with_reducible refine kto_t ?_
  | with_reducible refine kto_f ?_
  | with_reducible refine kto_nt ?_
  | with_reducible refine kto_nf ?_
  | with_reducible refine kta_t ?_
  | with_reducible refine kta_f ?_
  | with_reducible refine kta_nt ?_
  | with_reducible refine kta_nf ?_
  | with_reducible refine ktn_t ?_
  | with_reducible refine ktn_f ?_
  | with_reducible refine kan_t ?_
  | with_reducible refine kan_f ?_
  | with_reducible refine kor_t ?_
  | with_reducible refine kor_f ?_
  | with_reducible refine kix_t ?_
  | with_reducible refine kix_f ?_
  | with_reducible refine k_tn ?_
  | with_reducible refine k_aug_add ?_
  | with_reducible refine k_aug_sub ?_
  | with_reducible refine q_rng1 ?_
  | with_reducible refine q_lst ?_
  | with_reducible refine q_tup ?_
  | with_reducible refine kif_t ?_
  | with_reducible refine kif_f ?_)
local macro_rules | `(tactic| walk_at "go") => `(tactic| repeat first | walk_at "stc" | walk_at "st")
local macro_rules | `(tactic| walk_at "st2") => `(tactic| first
  | walk_at "st"
  | with_reducible refine e_slc ?_
  | with_reducible refine k_sa ?_
  | with_reducible refine k_sb ?_
  | with_reducible refine p_no ?_
  | with_reducible refine p_so ?_
  | with_reducible refine k_pa ?_
  | with_reducible refine q_enm ?_
  | with_reducible refine q_zip ?_
  | with_reducible refine q_rvs ?_
  | with_reducible refine e_chn ?_
  | with_reducible refine t_chn ?_
  | with_reducible refine k_h1 ?_
  | with_reducible refine k_h2 ?_)
local macro_rules | `(tactic| walk_at "g2") => `(tactic| repeat first | walk_at "stc" | walk_at "st2")
local macro_rules | `(tactic| walk_at "st3") => `(tactic| first
  | with_reducible refine c_eqT ?_
  | with_reducible refine c_neT ?_
  | walk_at "st2"
  | with_reducible refine c_inS ?_
  | with_reducible refine c_niS ?_
  | with_reducible refine e_callk ?_
  | with_reducible refine k_k1 ?_
  | ((with_reducible refine k_k2 rfl ?_); dsimp only [List.cons_append, List.nil_append])
  | with_reducible refine e_bits ?_
  | with_reducible refine e_rev ?_
  | with_reducible refine k_bits ?_
  | with_reducible refine q_rng3 ?_
  | with_reducible refine q_txt ?_
  | with_reducible refine q_zipS ?_
  | with_reducible refine k_zs ?_
  | with_reducible refine k_tx ?_
  | with_reducible refine k_mS rfl ?_)
local macro_rules | `(tactic| walk_at "g3") => `(tactic| repeat first | walk_at "stc" | walk_at "st3")
local macro_rules | `(tactic| walk_at "st4") => `(tactic| first
  | with_reducible refine c_isTT ?_
  | with_reducible refine c_isFF ?_
  | with_reducible refine c_isnTT ?_
  | with_reducible refine c_isnFF ?_
  | with_reducible refine c_eqR ?_
  | with_reducible refine c_neR ?_
  | with_reducible refine c_eqsR ?_
  | with_reducible refine c_nesR ?_
  | walk_at "st3"
  | with_reducible refine q_rng2a ?_
  | with_reducible refine k_r2a ?_
  | with_reducible refine f_int0 ?_
  | with_reducible refine f_int1 ?_)
local macro_rules | `(tactic| walk_at "g4") => `(tactic| repeat first | walk_at "stc" | walk_at "st4")
local macro_rules | `(tactic| walk_at "st5") => `(tactic| first
  | walk_at "st4"
  | with_reducible refine e_chn3 ?_
  | with_reducible refine t_chn3 ?_
  | with_reducible refine k_g1 ?_
  | with_reducible refine k_g2 ?_
  | with_reducible refine e_dct ?_
  | with_reducible refine k_ps0 ?_
  | with_reducible refine k_ps1 ?_
  | with_reducible refine k_pk ?_
  | with_reducible refine k_pv ?_
  | with_reducible refine e_dget ?_
  | with_reducible refine k_ge2 ?_
  | with_reducible refine r_ddel ?_
  | with_reducible refine k_dl1 ?_
  | with_reducible refine r_rai ?_
  | with_reducible refine e_lrg1 ?_
  | with_reducible refine e_lenO ?_
  | with_reducible refine q_rvT ?_
  | with_reducible refine e_mxd ?_
  | with_reducible refine k_mx ?_
  | with_reducible refine q_enmT ?_)
local macro_rules | `(tactic| walk_at "g5") => `(tactic| repeat first | walk_at "stc" | walk_at "st5")
/-! ### drawing: _law_state, _law_take, _law_bits -/
theorem take_spec {v : Ev} {n : Nat} {w : Wd} {s c : Addr} {m : Int} {Q : VK} {E : XK} (g : Gen w s c) (h0 : 0 < m) (h1 : m < 1000000)
    (q : ∀ w' r, Ex [s, c] w w' → Gen w' s c → 0 ≤ r → r < m → Q (.int r) w'.H) : spOf v D (n + 1) i_law_take [.ref s, .int m] w.H Q E := by
  obtain ⟨⟨i, cs, os, oc, hi, hl, hp⟩, ne⟩ := g
  have hlog : m.natAbs.log2 < 9000 := by
    have : m.natAbs < 2 ^ 9000 := by
      have : m.natAbs < 2 ^ 20 := by omega
      exact Nat.lt_of_lt_of_le this (Nat.pow_le_pow_right (by decide) (by decide))
    rcases Nat.eq_zero_or_pos m.natAbs with e | e
    · rw [e]; decide
    · exact (Nat.log2_lt (by omega)).mpr this
  refine in_law_take ?_
  unfold b_law_take
  walk_at "go"
  refine i_O os.h (by decide) rfl ?_
  walk_at "go"
  refine i_O os.h (by decide) rfl ?_
  walk_at "go"
  refine f_lenO oc.h ?_
  walk_at "go"
  rw [List.length_map]
  refine o_mod (by omega) ?_
  walk_at "go"
  have ha : 0 ≤ i % (cs.length : Int) := Int.emod_nonneg _ (by omega)
  have hb : i % (cs.length : Int) < cs.length := Int.emod_lt_of_pos _ (by omega)
  refine i_OG oc.h ha hb ?_
  walk_at "go"
  have hx : 0 ≤ cs.getD (i % (cs.length : Int)).toNat 0 := hp _ (by
    rw [List.getD_eq_getElem?_getD, List.getElem?_eq_getElem (by omega)]
    exact List.getElem_mem _)
  generalize cs.getD (i % (cs.length : Int)).toNat 0 = x at hx
  refine kif_d (fun hc => ?_) (fun hc => ?_)
  · walk_at "go"
    refine o_fdv h0 hlog ?_
    walk_at "go"
    refine k_set_lst (j := (i % (cs.length : Int)).toNat) oc (by
      unfold ixN
      rw [if_pos ha, List.length_map, if_pos hb]) fun w' e o' => ?_
    have os' := os.ex e (by simp [ne])
    walk_at "go"
    refine o_mod h0 ?_
    refine q w' _ (e.more (by simp) ?_) ⟨⟨i, cs.set (i % (cs.length : Int)).toNat (x / m), os', by rw [List.map_set]; exact o', hi, by rw [List.length_set]; exact hl, ?_⟩, ne⟩ (Int.emod_nonneg _ (by omega)) (Int.emod_lt_of_pos _ h0)
    · exact Gen.op ⟨⟨i, cs, os, oc, hi, hl, hp⟩, ne⟩
    · intro y hy
      rcases List.mem_or_eq_of_mem_set hy with hy | hy
      · exact hp y hy
      · rw [hy]; exact Int.ediv_nonneg hx (by omega)
  · walk_at "go"
    refine i_O os.h (by decide) rfl ?_
    walk_at "go"
    refine k_set_lst (j := 0) os rfl fun w' e o' => ?_
    have oc' := oc.ex e (by simp [Ne.symm ne])
    walk_at "go"
    refine o_mul (.inr ⟨by decide, by decide⟩) ?_
    walk_at "go"
    refine i_O o'.h (by decide) rfl ?_
    walk_at "go"
    refine o_mul (.inr ⟨by decide, by decide⟩) ?_
    walk_at "go"
    refine o_mod (by decide) ?_
    walk_at "go"
    refine o_mul (.inr ⟨by decide, by decide⟩) ?_
    walk_at "go"
    refine i_O o'.h (by decide) rfl ?_
    walk_at "go"
    refine o_mul (.inr ⟨by decide, by decide⟩) ?_
    walk_at "go"
    refine o_mod (by decide) ?_
    walk_at "go"
    refine o_fdv (by decide) (by decide) ?_
    walk_at "go"
    refine o_mod h0 ?_
    refine q w' _ (e.more (by simp) ?_) ⟨⟨i + 1, cs, o', oc', by omega, hl, hp⟩, ne⟩ (Int.emod_nonneg _ (by omega)) (Int.emod_lt_of_pos _ h0)
    exact Gen.op ⟨⟨i, cs, os, oc, hi, hl, hp⟩, ne⟩
/-- the drawing begins -/
theorem state_spec {v : Ev} {n : Nat} {w : Wd} {a : Addr} {ns : List Int} {Q : VK} {E : XK} (hS : SqL v.K w.H a (ns.map V.int)) (hn : ns.length ≤ 63)
    (q : ∀ w' s c, Ex [] w w' → Gen w' s c → Q (.ref s) w'.H) : spOf v D (n + 1) i_law_state [.ref a] w.H Q E := by
  refine in_law_state ?_
  unfold b_law_state
  walk_at "go"
  refine e_sl ?_
  refine e_v ?_; refine k_v ?_
  refine ⟨63, rfl, ?_⟩
  obtain ⟨ms, em, hms⟩ := cutV_ints (ns := ns) (lo := none) (hi := some 63)
  refine sl_L hS ?_
  rw [em]
  refine new_op fun w1 p e1 hp1 o1 => ?_
  refine k_ls o1.h ?_
  refine k_lc_lst (xs := ms.map V.int) fun w2 d e2 hd2 o2 => ⟨fun i w' => Ex [] w w' ∧ w'.H p = some (.lst (ms.map V.int)) ∧ w.H d = none ∧ ∃ cs : List Int, Op w' d (.lst (cs.map V.int)) ∧ cs.length = i ∧ ∀ x ∈ cs, 0 ≤ x, ?_, ?_, ?_, ?_⟩
  · exact ⟨e1.t0 e2, (o1.ex e2 (by simp)).h, e1.free hd2, [], o2, rfl, by simp⟩
  · exact fun i w' h => sqL h.2.1
  · rintro i x w3 hx ⟨e3, h3, hd, cs, o3, hl, hp⟩
    rw [List.getElem?_map] at hx
    obtain ⟨k, hk, rfl⟩ := Option.map_eq_some_iff.mp hx
    have hi : i < ms.length := by
      rcases Nat.lt_or_ge i ms.length with h | h
      · exact h
      · rw [List.getElem?_eq_none h] at hk; cases hk
    refine g_nm ?_
    refine k_lb0 rfl ?_
    walk_at "go"
    refine k_ap (acc := cs.map V.int) o3 (by rw [List.length_map, sizeLine_eq]; omega) fun w4 e4 o4 => ⟨e3.tf e4 hd, ?_, hd, cs ++ [if k < 0 then -k else k], by simpa using o4, by simp [hl], ?_⟩
    · exact e4.kp _ _ h3 (by simp only [List.mem_singleton]; exact o1.ne hd2)
    · intro y hy
      rcases List.mem_append.mp hy with hy | hy
      · exact hp y hy
      · simp at hy; subst hy; split <;> omega
  · rintro w3 ⟨e3, h3, hd, cs, o3, hl, hp⟩
    walk_at "go"
    refine f_lenO o3.h ?_
    walk_at "go"
    refine kif_d (fun hc => ?_) (fun hc => ?_)
    · walk_at "go"
      refine k_lstO (by simp) fun w4 c e4 hc4 o4 => ?_
      walk_at "go"
      refine k_lstO (by simp) fun w5 s e5 hs5 o5 => ?_
      exact q w5 s c ((e3.t0 e4).t0 e5) ⟨⟨0, [0], o5, o4.ex e5 (by simp), by decide, by decide, by simp⟩, Ne.symm (o4.ne hs5)⟩
    · walk_at "go"
      refine k_lstO (by simp) fun w5 s e5 hs5 o5 => ?_
      rw [List.length_map] at hc
      exact q w5 s d (e3.t0 e5) ⟨⟨0, cs, o5, o3.ex e5 (by simp), by decide, by omega, hp⟩, Ne.symm (o3.ne hs5)⟩
/-! ### clauses -/
abbrev ct (c : List Int) : PyData := .tuple (c.map .int)
/-- is a term true, a clause -/
def tv (vs : List Int) (t : Int) : Bool := (decide (0 < t) && decide (vs.getD (t - 1).toNat 0 = 1)) || (decide (t < 0) && decide (vs.getD (-t - 1).toNat 0 = 0))
def tru (vs : List Int) (c : List Int) : Bool := c.any (tv vs)
theorem tv_pos {vs : List Int} {t : Int} (h : 0 < t) : tv vs t = decide (vs.getD (t - 1).toNat 0 = 1) := by
  unfold tv
  rw [decide_eq_true h, decide_eq_false (show ¬ t < 0 by omega), Bool.true_and, Bool.false_and, Bool.or_false]
theorem tv_neg {vs : List Int} {t : Int} (h : t < 0) : tv vs t = decide (vs.getD (-t - 1).toNat 0 = 0) := by
  unfold tv
  rw [decide_eq_true h, decide_eq_false (show ¬ 0 < t by omega), Bool.true_and, Bool.false_and, Bool.false_or]
/-- its terms name values -/
def Trm (m : Nat) (c : List Int) : Prop := ∀ t ∈ c, t ≠ 0 ∧ t.natAbs ≤ m
theorem tru_snoc (vs c : List Int) (t : Int) : tru vs (c ++ [t]) = (tru vs c || tv vs t) := by
  unfold tru; rw [List.any_append]; simp
theorem tru_mem {vs c : List Int} {t : Int} (h : t ∈ c) (h1 : tv vs t = true) : tru vs c = true := List.any_eq_true.mpr ⟨t, h, h1⟩
theorem Dvs.of_ct {w : Wd} {xs : List V} {c : List Int} (h : Dvs w xs (c.map .int)) : xs = c.map V.int := h.of_ints
/-! ### the law -/
theorem inV_ints {t : Int} {xs : List Int} : inV (.int t) (xs.map V.int) = decide (t ∈ xs) := by
  induction xs with
  | nil => simp [inV]
  | cons x r ih =>
    have e : inV (.int t) ((x :: r).map V.int) = (eqV (.int x) (.int t) || inV (.int t) (r.map V.int)) := rfl
    rw [e, ih]
    have q : eqV (.int x) (.int t) = decide (x = t) := rfl
    rw [q]
    by_cases h : x = t
    · subst h; simp
    · have h' : ¬ t = x := fun z => h z.symm
      simp [h, h']
theorem flat_ints (xs : List Int) : (xs.map V.int).all flatV = true := by
  rw [List.all_eq_true]
  intro x hx
  obtain ⟨i, _, rfl⟩ := List.mem_map.mp hx
  rfl
/-- the terms of c that are open under asm -/
def opn (asm : List Int) (c : List Int) : List Int := c.foldl (fun r t => if -t ∉ asm ∧ t ∉ r then r ++ [t] else r) []
theorem opn_snoc (asm c : List Int) (t : Int) : opn asm (c ++ [t]) = if -t ∉ asm ∧ t ∉ opn asm c then opn asm c ++ [t] else opn asm c := by
  unfold opn; rw [List.foldl_append]; rfl
theorem opn_len (asm : List Int) (c : List Int) : ∀ k, k ≤ c.length → (opn asm (c.take k)).length ≤ k
  | 0, _ => by simp [opn]
  | k + 1, h => by
    have ih := opn_len asm c k (by omega)
    rw [List.take_add_one, List.getElem?_eq_getElem (by omega)]
    show (opn asm (c.take k ++ [c[k]])).length ≤ k + 1
    rw [opn_snoc]
    split
    · simp; omega
    · omega
theorem opn_mem {asm : List Int} {t : Int} (h : -t ∉ asm) : ∀ {c : List Int}, t ∈ c → t ∈ opn asm c := by
  have key : ∀ (c r : List Int), (t ∈ r ∨ t ∈ c) → t ∈ c.foldl (fun r t => if -t ∉ asm ∧ t ∉ r then r ++ [t] else r) r := by
    intro c
    induction c with
    | nil => intro r hr; rcases hr with hr | hr; exact hr; simp at hr
    | cons x c ih =>
      intro r hr
      refine ih _ ?_
      dsimp only
      rcases hr with hr | hr
      · left; split
        · exact List.mem_append.mpr (.inl hr)
        · exact hr
      · rcases List.mem_cons.mp hr with hr | hr
        · subst hr
          by_cases hx : t ∈ r
          · left; split
            · exact List.mem_append.mpr (.inl hx)
            · exact hx
          · left; rw [if_pos ⟨h, hx⟩]; simp
        · exact .inr hr
  intro c hc
  exact key c [] (.inr hc)
theorem opn_sub {asm : List Int} : ∀ {c : List Int} {t : Int}, t ∈ opn asm c → t ∈ c := by
  have key : ∀ (c r : List Int) (t : Int), t ∈ c.foldl (fun r t => if -t ∉ asm ∧ t ∉ r then r ++ [t] else r) r → t ∈ r ∨ t ∈ c := by
    intro c
    induction c with
    | nil => intro r t h; exact .inl h
    | cons x c ih =>
      intro r t h
      rcases ih _ t h with h | h
      · dsimp only at h
        split at h
        · rcases List.mem_append.mp h with h | h
          · exact .inl h
          · simp at h; subst h; exact .inr (by simp)
        · exact .inl h
      · exact .inr (List.mem_cons_of_mem _ h)
  intro c t h
  rcases key c [] t h with h | h
  · simp at h
  · exact h
/-- only what is in it counts -/
theorem opn_congr {a b : List Int} (h : ∀ t, t ∈ a ↔ t ∈ b) (c : List Int) : opn a c = opn b c := by
  unfold opn
  have : (fun (r : List Int) t => if -t ∉ a ∧ t ∉ r then r ++ [t] else r) = fun r t => if -t ∉ b ∧ t ∉ r then r ++ [t] else r := by
    funext r t
    simp only [h (-t)]
  rw [this]
/-- the check of a step -/
def chkS (cs : List (List Int)) : List Int → List Int → Bool
  | _, [] => false
  | asm, h :: hs =>
    if h < 0 ∨ (cs.length : Int) ≤ h then false else
    if (opn asm (cs.getD h.toNat [])).length = 0 then true else
    if 1 < (opn asm (cs.getD h.toNat [])).length then false else
    chkS cs (asm ++ [(opn asm (cs.getD h.toNat [])).getD 0 0]) hs
theorem chkS_cons (cs : List (List Int)) (asm : List Int) (h : Int) (hs : List Int) : chkS cs asm (h :: hs) = if h < 0 ∨ (cs.length : Int) ≤ h then false else
    if (opn asm (cs.getD h.toNat [])).length = 0 then true else
    if 1 < (opn asm (cs.getD h.toNat [])).length then false else
    chkS cs (asm ++ [(opn asm (cs.getD h.toNat [])).getD 0 0]) hs := rfl
/-- a right check of a step, and no model of the clauses falsifies the clause -/
theorem chkS_ok {cs : List (List Int)} {vs : List Int} (hcs : ∀ c ∈ cs, tru vs c = true) (ht : ∀ c ∈ cs, Trm vs.length c) : ∀ (hs asm : List Int), (∀ t ∈ asm, tv vs t = true) → chkS cs asm hs = true → False
  | [], asm, ha, h => by simp [chkS] at h
  | x :: hs, asm, ha, h => by
    rw [chkS_cons] at h
    split at h
    · cases h
    rename_i hx
    have hm : cs.getD x.toNat [] ∈ cs := by
      rw [List.getD_eq_getElem?_getD, List.getElem?_eq_getElem (by omega)]
      exact List.getElem_mem _
    obtain ⟨t, htm, htv⟩ := List.any_eq_true.mp (hcs _ hm)
    have hneg : ∀ u, u ≠ 0 → tv vs u = true → tv vs (-u) = true → False := by
      intro u h0 h1 h2
      rcases Int.lt_or_gt_of_ne h0 with z | z
      · rw [tv_neg z] at h1
        rw [tv_pos (by omega)] at h2
        have h1 := of_decide_eq_true h1
        have h2 := of_decide_eq_true h2
        rw [h1] at h2; omega
      · rw [tv_pos z] at h1
        rw [tv_neg (by omega)] at h2
        have h1 := of_decide_eq_true h1
        have h2 := of_decide_eq_true h2
        rw [show - -u - 1 = u - 1 by omega, h1] at h2; omega
    have hop : t ∈ opn asm (cs.getD x.toNat []) := opn_mem (fun hmem => hneg t (ht _ hm t htm).1 htv (ha _ hmem)) htm
    split at h
    · rename_i h0
      rw [List.length_eq_zero_iff.mp h0] at hop
      simp at hop
    split at h
    · cases h
    rename_i h0 h1
    have hl : (opn asm (cs.getD x.toNat [])).length = 1 := by omega
    obtain ⟨u, hu⟩ := List.length_eq_one_iff.mp hl
    rw [hu] at hop h
    have : t = u := by simpa using hop
    subst this
    refine chkS_ok hcs ht hs _ (fun y hy => ?_) h
    rcases List.mem_append.mp hy with hy | hy
    · exact ha y hy
    · simp at hy; subst hy; exact htv
/-- the dict of what is assumed -/
def kvT (ks : List Int) : List (Key × V) := ks.map fun k => (.inl k, .bl true)
theorem kvT_val (ks : List Int) (t : Int) : valV (kvT ks) (.inl t) = if t ∈ ks then some (.bl true) else none := by
  induction ks with
  | nil => rfl
  | cons x r ih =>
    by_cases e : x = t
    · subst e
      show valV ((Sum.inl x, V.bl true) :: kvT r) (.inl x) = _
      rw [valV_pos rfl]; simp
    · show valV ((Sum.inl x, V.bl true) :: kvT r) (.inl t) = _
      rw [valV_neg (by simpa using e), ih]
      have : (t = x) = False := by simpa using Ne.symm e
      simp [this]
theorem kvT_put (ks : List Int) (t : Int) : ∃ ks', putK (kvT ks) (.inl t) (.bl true) = kvT ks' ∧ (∀ u, u ∈ ks' ↔ u ∈ ks ∨ u = t) ∧ ks'.length ≤ ks.length + 1 := by
  by_cases h : t ∈ ks
  · refine ⟨ks, ?_, fun u => ⟨.inl, fun q => by rcases q with q | q; exact q; rw [q]; exact h⟩, by omega⟩
    unfold putK
    rw [valV_any, kvT_val, if_pos h]
    simp only [Option.isSome_some, if_true]
    unfold kvT
    rw [List.map_map]
    refine List.map_congr_left fun x _ => ?_
    simp
  · refine ⟨ks ++ [t], ?_, fun u => by simp, by simp⟩
    unfold putK
    rw [valV_any, kvT_val, if_neg h]
    simp [kvT]
theorem chkS_congr {cs : List (List Int)} : ∀ (hs : List Int) {a b : List Int}, (∀ t, t ∈ a ↔ t ∈ b) → chkS cs a hs = chkS cs b hs
  | [], _, _, _ => rfl
  | x :: hs, a, b, h => by
    rw [chkS_cons, chkS_cons, opn_congr h]
    rw [chkS_congr hs (a := a ++ [(opn b (cs.getD x.toNat [])).getD 0 0]) (b := b ++ [(opn b (cs.getD x.toNat [])).getD 0 0]) fun t => by simp [h t]]
theorem drop_at {α : Type} {l : List α} {i : Nat} {x : α} (h : l[i]? = some x) : l.drop i = x :: l.drop (i + 1) := by
  have hi : i < l.length := by
    rcases Nat.lt_or_ge i l.length with z | z
    · exact z
    · rw [List.getElem?_eq_none z] at h; cases h
  rw [List.drop_eq_getElem_cons hi]
  rw [List.getElem?_eq_getElem hi] at h
  rw [Option.some.inj h]
/-! ### while, a field that is counted up, pop and insert at a place, a list's truth -/
section
variable {v : Ev} {W : WX} {σ : St} {H : Hp} {nx bk ct : St → Hp → Prop} {rt : VK} {w : Wd} {Q : VK} {K : PySem.W.Frag}
def KWx (Inv : Nat → St → Wd → Prop) (m : Nat) : St → Hp → Prop := fun σ' H' => ∃ m', m' < m ∧ ∃ w', w'.H = H' ∧ Inv m' σ' w'
theorem k_wx {Inv : Nat → St → Wd → Prop} {m : Nat} (m' : Nat) (h : m' < m) (p : Inv m' σ w) : KWx Inv m σ w.H := ⟨m', h, w, rfl, p⟩
def KWh (v : Ev) (b : Sms) (W : WX) (Inv : Nat → St → Wd → Prop) (m : Nat) (nx : St → Hp → Prop) (rt : VK) (σ : St) : Bool → Hp → Prop :=
  fun c H1 => if c = true then ∃ N : St → Hp → Prop, (∀ σ' H', N σ' H' → ∃ m', m' < m ∧ ∃ w', w'.H = H' ∧ Inv m' σ' w') ∧ b.den v W ⟨N, rt, nx, N⟩ σ H1 else nx σ H1
theorem k_wht {b : Sms} {Inv : Nat → St → Wd → Prop} {m : Nat} (h : b.den v W ⟨KWx Inv m, rt, nx, KWx Inv m⟩ σ H) : KWh v b W Inv m nx rt σ true H := ⟨KWx Inv m, fun _ _ h => h, h⟩
theorem k_whf {b : Sms} {Inv : Nat → St → Wd → Prop} {m : Nat} (h : nx σ H) : KWh v b W Inv m nx rt σ false H := h
theorem k_whd {b : Sms} {Inv : Nat → St → Wd → Prop} {m : Nat} {p : Prop} [Decidable p] (ht : p → b.den v W ⟨KWx Inv m, rt, nx, KWx Inv m⟩ σ H) (hf : ¬ p → nx σ H) : KWh v b W Inv m nx rt σ (decide p) H := by
  by_cases h : p
  · rw [decide_eq_true h]; exact k_wht (ht h)
  · rw [decide_eq_false h]; exact k_whf (hf h)
theorem r_whl {t : Tt} {b : Sms} (Inv : Nat → St → Wd → Prop) (m0 : Nat) (h0 : Inv m0 σ w) (hs : ∀ m σ w', Inv m σ w' → t.den v W σ w'.H (KWh v b W Inv m nx rt σ)) : Sm.den v (.whl t b) W ⟨nx, rt, bk, ct⟩ σ w.H := by
  refine ⟨fun m σ H => ∃ w', w'.H = H ∧ Inv m σ w', ⟨m0, w, rfl, h0⟩, ?_⟩
  rintro m σ H ⟨w', rfl, p⟩
  exact hs m σ w' p
/-- a field's number, counted up -/
theorem r_augf {C k : Nat} {f : Str} {a dx : Addr} {fs gs : List (Str × V)} {i j : Int} (hs : σ[k]? = some (some (.ref a))) (o : Op w a (.ins (v.cls C) dx fs)) (hl : fs.lookup f = some (.int i)) (hn : fs.length < 1000) (hg : putF f (.int (i + j)) fs = gs)
    (h : ∀ w', Ex [a] w w' → Op w' a (.ins (v.cls C) dx gs) → nx σ w'.H) : Sm.den v (.augf C (.v k) f .Add (.c (.int j))) W ⟨nx, rt, bk, ct⟩ σ w.H := by
  subst hg
  show tFlA (v.cls C) ((Xp.v k).den v W) ((Xp.c (.int j)).den v W) (rAug v.K .Add) f ⟨nx, rt, bk, ct⟩ σ w.H
  unfold tFlA
  refine e_v ?_
  rw [hs]
  exact k_v ⟨a, dx, fs, .int i, rfl, o.h, hl, fs, o.h, hn, h (w.put a _) (ex_set o) (op_set o)⟩
theorem m_popI {a : Addr} {xs : List V} {i : Int} {y : V} (o : Op w a (.lst xs)) (h0 : 0 ≤ i) (h1 : i < xs.length) (hn : i < 2 ^ 62) (hy : xs[i.toNat]? = some y) (h : ∀ w', Ex [a] w w' → Op w' a (.lst (xs.eraseIdx i.toNat)) → Q y w'.H) : KM2 K .pop (.ref a) Q [.int i] w.H := by
  refine ⟨xs, i.toNat, y, o.h, by omega, by omega, ?_, hy, h (w.put a _) (ex_set o) (op_set o)⟩
  have e : (if i < 0 then i + (xs.length : Int) else i) = i := if_neg (by omega)
  unfold seqIndex?
  simp only [e]
  rw [if_pos (by simp; omega)]
theorem m_insI {a : Addr} {xs : List V} {x : V} {i : Int} (o : Op w a (.lst xs)) (hl : xs.length < sizeLine) (h0 : 0 ≤ i) (h1 : i < 2 ^ 63) (h : ∀ w', Ex [a] w w' → Op w' a (.lst (xs.take i.toNat ++ [x] ++ xs.drop i.toNat)) → Q .non w'.H) : KM2 K .insert (.ref a) Q [.int i, x] w.H :=
  ⟨xs, o.h, hl, h0, h1, h (w.put a _) (ex_set o) (op_set o)⟩
theorem k_trL {a : Addr} {xs : List V} {P : Bool → Hp → Prop} (e : w.H a = some (.lst xs)) (h : P (!xs.isEmpty) w.H) : KTr K P (.ref a) w.H := RTru.lst (sqL e) h
theorem i_neg {a : Addr} {xs : List V} {y : V} (e : w.H a = some (.lst xs)) (h1 : 1 ≤ xs.length) (hy : xs[xs.length - 1]? = some y) (h : Q y w.H) : KI2 K (.ref a) Q (.int (-1)) w.H := RIxR.lst (sqL e) rfl (atI_neg (by decide) (by omega) (by rw [show (-1 + (xs.length : Int)).toNat = xs.length - 1 by omega]; exact hy)) h
end
/-! ### the solver, as plain functions -/
structure Sv where
  cls : List (List Int)
  tr : List (Int × Option Nat)
  hd : Nat
  st : List (List Int × List Nat)
abbrev tms (tr : List (Int × Option Nat)) : List Int := tr.map (·.1)
/-- the open terms of a clause; none if one is true -/
def opT (tr : List (Int × Option Nat)) (cl : List Int) : Option (List Int) := if cl.any (fun t => decide (t ∈ tms tr)) = true then none else some (cl.filter fun t => decide (-t ∉ tms tr))
def lookF (s : Sv) (k : Nat) : Bool × Sv :=
  match opT s.tr (s.cls.getD k []) with
  | some [] => (true, s)
  | some [t] => (false, { s with tr := s.tr ++ [(t, some k)] })
  | _ => (false, s)
def looks : List Nat → Sv → Option Nat × Sv
  | [], s => (none, s)
  | k :: r, s => if (lookF s k).1 = true then (some k, (lookF s k).2) else looks r (lookF s k).2
def beginF (s : Sv) : Option Nat × Sv := looks ((List.range s.cls.length).filter fun k => decide ((s.cls.getD k []).length ≤ 1)) s
/-- the clauses that hold a term -/
def usr (cls : List (List Int)) (t : Int) : List Nat := (List.range cls.length).filter fun k => decide (t ∈ cls.getD k [])
def propF : Nat → Sv → Option Nat × Sv
  | 0, s => (none, s)
  | f + 1, s => if s.hd < s.tr.length then
      match (looks (usr s.cls (-(s.tr.getD s.hd (0, none)).1)) { s with hd := s.hd + 1 }).1 with
      | some k => (some k, (looks (usr s.cls (-(s.tr.getD s.hd (0, none)).1)) { s with hd := s.hd + 1 }).2)
      | none => propF f (looks (usr s.cls (-(s.tr.getD s.hd (0, none)).1)) { s with hd := s.hd + 1 }).2
    else (none, s)
/-- marks, from the end of the trail on -/
def mrkF (cls : List (List Int)) : List (Int × Option Nat) → List Int → List Int
  | [], m => m
  | (t, none) :: r, m => mrkF cls r m
  | (t, some k) :: r, m => mrkF cls r (if t ∈ m then m ++ ((cls.getD k []).filter fun o => decide (o ≠ t)).map (-·) else m)
def mkd (s : Sv) (k : Nat) : List (Int × Option Nat) := s.tr.filter fun p => decide (p.1 ∈ mrkF s.cls s.tr.reverse ((s.cls.getD k []).map (-·)))
def dcs (m : List (Int × Option Nat)) : List Int := (m.filter fun p => p.2.isNone).map (·.1)
def hns (m : List (Int × Option Nat)) : List Nat := m.filterMap (·.2)
def cutF (tr : List (Int × Option Nat)) (d : Int) : List (Int × Option Nat) := tr.takeWhile fun p => decide (p.1 ≠ d)
def lrnF (s : Sv) (k : Nat) : Bool × Sv :=
  let ds := dcs (mkd s k)
  let cl := (ds.map (-·)).reverse
  let st := s.st ++ [(cl, hns (mkd s k) ++ [k])]
  if ds = [] then (false, { s with st := st })
  else (true, ⟨s.cls ++ [cl], cutF s.tr (ds.getD (ds.length - 1) 0) ++ [(cl.getD 0 0, some s.cls.length)], (cutF s.tr (ds.getD (ds.length - 1) 0)).length, st⟩)
/-- the least variable without a value -/
def freeV (tr : List (Int × Option Nat)) (n : Nat) : Option Nat := ((List.range n).map (· + 1)).find? fun v => decide ((v : Int) ∉ tms tr ∧ -(v : Int) ∉ tms tr)
def asgF (tr : List (Int × Option Nat)) (n : Nat) : List Int := (List.range n).map fun v : Nat => if ((v : Int) + 1) ∈ tms tr then (1 : Int) else 0
inductive Ans where
  | unknown
  | refuted (st : List (List Int × List Nat))
  | model (vs : List Int)
/-- the search; the first number is fuel -/
def srch (n limit : Nat) : Nat → Option Nat → Nat → Sv → Ans
  | 0, _, _, _ => .unknown
  | f + 1, cf, cn, s =>
    let r := match cf with
      | some k => (some k, s)
      | none => propF (n + 1) s
    match r.1 with
    | some k =>
      if cn + 1 > limit then .unknown
      else if (lrnF r.2 k).1 = true then srch n limit f none (cn + 1) (lrnF r.2 k).2 else .refuted (lrnF r.2 k).2.st
    | none =>
      match freeV r.2.tr n with
      | some v => srch n limit f none cn { r.2 with tr := r.2.tr ++ [(-(v : Int), none)] }
      | none => .model (asgF r.2.tr n)
def dst : List Int → List Int → List Int
  | [], r => r
  | t :: ts, r => dst ts (if t ∈ r then r else r ++ [t])
def sv0 (cls : List (List Int)) : Sv := ⟨cls.map fun c => dst c [], [], 0, []⟩
def solveF (cls : List (List Int)) (n limit fuel : Nat) : Ans := srch n limit fuel (beginF (sv0 cls)).1 0 (beginF (sv0 cls)).2
/-! ### the solver's invariants, plain -/
structure SvOk (n : Nat) (s : Sv) : Prop where
  cl : ∀ c ∈ s.cls, c.Nodup ∧ ∀ t ∈ c, 1 ≤ t.natAbs ∧ t.natAbs ≤ n
  tr : ∀ t ∈ tms s.tr, 1 ≤ t.natAbs ∧ t.natAbs ≤ n
  nd : ((tms s.tr).map Int.natAbs).Nodup
  hd : s.hd ≤ s.tr.length
  rs : ∀ i t k, s.tr[i]? = some (t, some k) → k < s.cls.length ∧ t ∈ s.cls.getD k [] ∧ ∀ o ∈ s.cls.getD k [], o ≠ t → -o ∈ tms (s.tr.take i)
theorem nodup_le {n : Nat} {l : List Nat} (hn : l.Nodup) (h : ∀ x ∈ l, 1 ≤ x ∧ x ≤ n) : l.length ≤ n := by
  induction n generalizing l with
  | zero =>
    cases l with
    | nil => simp
    | cons a r => have := h a (by simp); omega
  | succ n ih =>
    have := ih (l := l.erase (n + 1)) (hn.erase _) fun x hx => by
      have hm := hn.mem_erase_iff.mp hx
      have := h x hm.2
      have := hm.1
      omega
    have := List.le_length_erase (l := l) (a := n + 1)
    omega
section
variable {n : Nat} {s : Sv}
theorem SvOk.len (S : SvOk n s) : s.tr.length ≤ n := by
  have := nodup_le S.nd fun x hx => by
    obtain ⟨t, ht, rfl⟩ := List.mem_map.mp hx
    exact S.tr t ht
  simpa using this
/-- a clause of distinct terms is short -/
theorem cl_len {c : List Int} (hd : c.Nodup) (h : ∀ t ∈ c, 1 ≤ t.natAbs ∧ t.natAbs ≤ n) : c.length ≤ 2 * n := by
  have h1 : (c.map fun t => if 0 < t then t.natAbs else n + t.natAbs).Nodup := by
    have : ∀ {l : List Int}, l.Nodup → (∀ t ∈ l, 1 ≤ t.natAbs ∧ t.natAbs ≤ n) → (l.map fun t => if 0 < t then t.natAbs else n + t.natAbs).Nodup := by
      intro l hl hb
      induction l with
      | nil => exact List.nodup_nil
      | cons a r ih =>
        rw [List.map_cons, List.nodup_cons]
        have hnd := List.nodup_cons.mp hl
        refine ⟨fun hm => ?_, ih hnd.2 fun t ht => hb t (by simp [ht])⟩
        obtain ⟨t, ht, e⟩ := List.mem_map.mp hm
        have ha := hb a (by simp)
        have hb := hb t (by simp [ht])
        have : t = a := by
          split at e <;> split at e <;> omega
        exact hnd.1 (this ▸ ht)
    exact this hd h
  have := nodup_le (n := 2 * n) h1 fun x hx => by
    obtain ⟨t, ht, rfl⟩ := List.mem_map.mp hx
    have := h t ht
    split <;> omega
  simpa using this
theorem SvOk.add (S : SvOk n s) {t : Int} {r : Option Nat} (h1 : 1 ≤ t.natAbs ∧ t.natAbs ≤ n) (h2 : t ∉ tms s.tr) (h3 : -t ∉ tms s.tr) (hr : ∀ k, r = some k → k < s.cls.length ∧ t ∈ s.cls.getD k [] ∧ ∀ o ∈ s.cls.getD k [], o ≠ t → -o ∈ tms s.tr) : SvOk n { s with tr := s.tr ++ [(t, r)] } := by
  refine ⟨S.cl, fun u hu => ?_, ?_, ?_, fun i u k h => ?_⟩
  · simp only [tms, List.map_append, List.mem_append, List.map_cons, List.map_nil, List.mem_singleton] at hu
    rcases hu with hu | rfl
    · exact S.tr u hu
    · exact h1
  · simp only [tms, List.map_append, List.map_cons, List.map_nil]
    rw [List.nodup_append]
    refine ⟨S.nd, by simp, fun a ha b hb => ?_⟩
    simp only [List.mem_singleton] at hb
    subst hb
    obtain ⟨u, hu, rfl⟩ := List.mem_map.mp ha
    intro e
    have : u = t ∨ u = -t := by omega
    rcases this with rfl | rfl
    · exact h2 hu
    · exact h3 hu
  · have := S.hd
    simp only [List.length_append, List.length_singleton]
    omega
  · dsimp only at h
    rcases Nat.lt_or_ge i s.tr.length with hi | hi
    · rw [List.getElem?_append_left hi] at h
      have := S.rs i u k h
      rw [List.take_append_of_le_length (by omega)]
      exact this
    · rw [List.getElem?_append_right hi] at h
      have hi0 : i - s.tr.length = 0 := by
        rcases Nat.eq_zero_or_pos (i - s.tr.length) with z | z
        · exact z
        · rw [List.getElem?_eq_none (by simp only [List.length_singleton]; omega)] at h; cases h
      rw [hi0] at h
      simp only [List.getElem?_cons_zero, Option.some.injEq, Prod.mk.injEq] at h
      obtain ⟨rfl, rfl⟩ := h
      have := hr k rfl
      rw [show i = s.tr.length by omega, List.take_left]
      exact this
/-- looking at a clause keeps it all -/
theorem SvOk.look (S : SvOk n s) {k : Nat} (hk : k < s.cls.length) : SvOk n (lookF s k).2 ∧ (lookF s k).2.cls = s.cls ∧ (lookF s k).2.hd = s.hd ∧ (lookF s k).2.st = s.st ∧ (∃ u, (lookF s k).2.tr = s.tr ++ u) ∧ ((lookF s k).1 = true → ∀ t ∈ s.cls.getD k [], -t ∈ tms s.tr) := by
  have hm : s.cls.getD k [] ∈ s.cls := by rw [List.getD_eq_getElem?_getD, List.getElem?_eq_getElem hk]; exact List.getElem_mem _
  have hc := S.cl _ hm
  unfold lookF
  cases ho : opT s.tr (s.cls.getD k []) with
  | none => exact ⟨S, rfl, rfl, rfl, ⟨[], by simp⟩, fun h => by cases h⟩
  | some os =>
    have fl : ∀ t ∈ s.cls.getD k [], t ∉ os → -t ∈ tms s.tr := fun t ht hn => by
      unfold opT at ho
      split at ho
      · cases ho
      · cases ho
        exact Classical.byContradiction fun z => hn (List.mem_filter.mpr ⟨ht, by simpa using z⟩)
    match os, ho, fl with
    | [], ho, fl => exact ⟨S, rfl, rfl, rfl, ⟨[], by simp⟩, fun _ t ht => fl t ht (by simp)⟩
    | [t], ho, fl =>
      have om : ∀ u ∈ [t], u ∈ s.cls.getD k [] ∧ u ∉ tms s.tr ∧ -u ∉ tms s.tr := by
        intro u hu
        unfold opT at ho
        split at ho
        · cases ho
        · rename_i hn
          injection ho with ho
          rw [← ho] at hu
          obtain ⟨h1, h2⟩ := List.mem_filter.mp hu
          exact ⟨h1, fun z => hn (List.any_eq_true.mpr ⟨u, h1, by simpa using z⟩), by simpa using h2⟩
      have ht := om t (by simp)
      refine ⟨S.add (hc.2 t ht.1) ht.2.1 ht.2.2 fun k' e => ?_, rfl, rfl, rfl, ⟨[(t, some k)], rfl⟩, fun h => by cases h⟩
      cases e
      exact ⟨hk, ht.1, fun o h1 h2 => fl o h1 (by simpa using h2)⟩
    | _ :: _ :: _, ho, fl => exact ⟨S, rfl, rfl, rfl, ⟨[], by simp⟩, fun h => by cases h⟩
end
section
variable {n : Nat}
theorem SvOk.looks : ∀ (ks : List Nat) (s : Sv), SvOk n s → (∀ k ∈ ks, k < s.cls.length) → SvOk n (LK.looks ks s).2 ∧ (LK.looks ks s).2.cls = s.cls ∧ (LK.looks ks s).2.hd = s.hd ∧ (LK.looks ks s).2.st = s.st ∧ (∃ u, (LK.looks ks s).2.tr = s.tr ++ u) ∧ ∀ k, (LK.looks ks s).1 = some k → k ∈ ks ∧ ∀ t ∈ s.cls.getD k [], -t ∈ tms (LK.looks ks s).2.tr
  | [], s, S, _ => ⟨S, rfl, rfl, rfl, ⟨[], by simp [LK.looks]⟩, fun k h => by cases h⟩
  | k :: r, s, S, h => by
    have L := S.look (h k (by simp))
    unfold LK.looks
    by_cases hc : (lookF s k).1 = true
    · rw [if_pos hc]
      refine ⟨L.1, L.2.1, L.2.2.1, L.2.2.2.1, L.2.2.2.2.1, fun k' e => ?_⟩
      cases e
      refine ⟨by simp, fun t ht => ?_⟩
      obtain ⟨u, eu⟩ := L.2.2.2.2.1
      have := L.2.2.2.2.2 hc t ht
      dsimp only
      rw [eu]
      simp only [tms, List.map_append, List.mem_append]
      exact .inl this
    · rw [if_neg hc]
      have ih := SvOk.looks r (lookF s k).2 L.1 fun j hj => by rw [L.2.1]; exact h j (by simp [hj])
      obtain ⟨u, eu⟩ := L.2.2.2.2.1
      obtain ⟨u2, eu2⟩ := ih.2.2.2.2.1
      refine ⟨ih.1, by rw [ih.2.1, L.2.1], by rw [ih.2.2.1, L.2.2.1], by rw [ih.2.2.2.1, L.2.2.2.1], ⟨u ++ u2, by rw [eu2, eu, List.append_assoc]⟩, fun k' e => ?_⟩
      have := ih.2.2.2.2.2 k' e
      rw [L.2.1] at this
      exact ⟨by simp [this.1], this.2⟩
end
/-! ### the solver, plain: what stays open, what is learned -/
theorem nd_inj {α β : Type} {f : α → β} : ∀ {l : List α}, (l.map f).Nodup → ∀ {a b : α}, a ∈ l → b ∈ l → f a = f b → a = b
  | [], _, _, _, h, _, _ => by cases h
  | x :: r, hn, a, b, ha, hb, e => by
    rw [List.map_cons, List.nodup_cons] at hn
    rcases List.mem_cons.mp ha with ea | ha1 <;> rcases List.mem_cons.mp hb with eb | hb1
    · rw [ea, eb]
    · exact absurd (List.mem_map.mpr ⟨b, hb1, by rw [← e, ea]⟩) hn.1
    · exact absurd (List.mem_map.mpr ⟨a, ha1, by rw [e, eb]⟩) hn.1
    · exact nd_inj hn.2 ha1 hb1 e
theorem nd_of_map {α β : Type} {f : α → β} : ∀ {l : List α}, (l.map f).Nodup → l.Nodup
  | [], _ => List.nodup_nil
  | x :: r, hn => by
    rw [List.map_cons, List.nodup_cons] at hn
    exact List.nodup_cons.mpr ⟨fun h => hn.1 (List.mem_map.mpr ⟨x, h, rfl⟩), nd_of_map hn.2⟩
theorem tms_app (a b : List (Int × Option Nat)) : tms (a ++ b) = tms a ++ tms b := List.map_append
section
variable {n : Nat} {s : Sv}
theorem SvOk.neg (S : SvOk n s) {t : Int} (h : t ∈ tms s.tr) : -t ∉ tms s.tr := fun z => by
  have := nd_inj S.nd h z (by omega)
  have := S.tr t h
  omega
/-- a term stands once on the trail -/
theorem SvOk.once (S : SvOk n s) {i : Nat} {t : Int} {r : Option Nat} (h : s.tr[i]? = some (t, r)) : t ∉ tms (s.tr.take i) := by
  have hi : i < s.tr.length := by
    rcases Nat.lt_or_ge i s.tr.length with z | z
    · exact z
    · rw [List.getElem?_eq_none z] at h; cases h
  have hd := nd_of_map S.nd
  have e : s.tr = s.tr.take i ++ (t, r) :: s.tr.drop (i + 1) := by
    conv => lhs; rw [← List.take_append_drop i s.tr]
    rw [List.drop_eq_getElem_cons hi]
    rw [List.getElem?_eq_getElem hi] at h
    rw [Option.some.inj h]
  rw [e, tms_app] at hd
  intro hm
  exact (List.nodup_append.mp hd).2.2 t hm t (by simp) rfl
theorem SvOk.look_nf (S : SvOk n s) {k : Nat} (h : (lookF s k).1 = false) : ∃ u ∈ s.cls.getD k [], -u ∉ tms s.tr := by
  unfold lookF at h
  cases ho : opT s.tr (s.cls.getD k []) with
  | none =>
    unfold opT at ho
    split at ho
    · rename_i hn
      obtain ⟨u, h1, h2⟩ := List.any_eq_true.mp hn
      exact ⟨u, h1, S.neg (by simpa using h2)⟩
    · cases ho
  | some os =>
    rw [ho] at h
    match os, ho, h with
    | [], _, h => cases h
    | u :: r, ho, _ =>
      unfold opT at ho
      split at ho
      · cases ho
      · injection ho with ho
        have hm : u ∈ (s.cls.getD k []).filter fun t => decide (-t ∉ tms s.tr) := by rw [ho]; simp
        obtain ⟨h1, h2⟩ := List.mem_filter.mp hm
        exact ⟨u, h1, by simpa using h2⟩
end
/-- what looking adds has a reason -/
def Imp (a b : List (Int × Option Nat)) : Prop := ∃ u, b = a ++ u ∧ ∀ p ∈ u, p.2.isSome = true
theorem Imp.refl (a : List (Int × Option Nat)) : Imp a a := ⟨[], by simp, by simp⟩
theorem Imp.trans {a b c : List (Int × Option Nat)} (h : Imp a b) (g : Imp b c) : Imp a c := by
  obtain ⟨u, rfl, hu⟩ := h
  obtain ⟨v, rfl, hv⟩ := g
  exact ⟨u ++ v, by rw [List.append_assoc], fun p hp => (List.mem_append.mp hp).elim (hu p) (hv p)⟩
theorem Imp.sub {a b : List (Int × Option Nat)} (h : Imp a b) {t : Int} (ht : t ∈ tms a) : t ∈ tms b := by
  obtain ⟨u, rfl, _⟩ := h
  rw [tms_app]; exact List.mem_append.mpr (.inl ht)
theorem look_imp (s : Sv) (k : Nat) : Imp s.tr (lookF s k).2.tr := by
  unfold lookF
  split
  · exact Imp.refl _
  · exact ⟨_, rfl, by simp⟩
  · exact Imp.refl _
theorem looks_imp : ∀ (ks : List Nat) (s : Sv), Imp s.tr (looks ks s).2.tr
  | [], s => Imp.refl _
  | k :: r, s => by
    unfold looks
    split
    · exact look_imp s k
    · exact (look_imp s k).trans (looks_imp r _)
/-- no clause is wholly false in the first h terms, and no decision stands behind them -/
structure Cq (cls : List (List Int)) (tr : List (Int × Option Nat)) (h : Nat) : Prop where
  le : h ≤ tr.length
  nf : ∀ c ∈ cls, ∃ u ∈ c, -u ∉ tms (tr.take h)
  dc : ∀ (i : Nat) (t : Int), tr[i]? = some (t, none) → i ≤ h
theorem Cq.imp {cls : List (List Int)} {a b : List (Int × Option Nat)} {h : Nat} (C : Cq cls a h) (g : Imp a b) : Cq cls b h := by
  obtain ⟨u, rfl, hu⟩ := g
  refine ⟨by have := C.le; rw [List.length_append]; omega, ?_, fun i t e => ?_⟩
  · rw [List.take_append_of_le_length C.le]; exact C.nf
  · rcases Nat.lt_or_ge i a.length with z | z
    · rw [List.getElem?_append_left z] at e
      exact C.dc i t e
    · rw [List.getElem?_append_right z] at e
      have := hu _ (List.mem_of_getElem? e)
      simp at this
section
variable {n : Nat}
theorem SvOk.looks_nf : ∀ (ks : List Nat) (s : Sv), SvOk n s → (∀ k ∈ ks, k < s.cls.length) → (LK.looks ks s).1 = none → ∀ k ∈ ks, ∃ u ∈ s.cls.getD k [], -u ∉ tms s.tr
  | [], _, _, _, _, k, hk => by cases hk
  | j :: r, s, S, h, hn, k, hk => by
    unfold LK.looks at hn
    split at hn
    · cases hn
    · rename_i hc
      rcases List.mem_cons.mp hk with rfl | hk
      · exact S.look_nf (by simpa using hc)
      · have L := S.look (h j (by simp))
        obtain ⟨u, h1, h2⟩ := SvOk.looks_nf r _ L.1 (fun i hi => by rw [L.2.1]; exact h i (by simp [hi])) hn k hk
        rw [L.2.1] at h1
        exact ⟨u, h1, fun z => h2 ((look_imp s j).sub z)⟩
theorem usr_mem {cls : List (List Int)} {t : Int} {k : Nat} : k ∈ usr cls t ↔ k < cls.length ∧ t ∈ cls.getD k [] := by
  unfold usr
  rw [List.mem_filter, List.mem_range, decide_eq_true_eq]
/-- what propagation tells -/
structure Pr (n : Nat) (s : Sv) (r : Option Nat × Sv) : Prop where
  ok : SvOk n r.2
  cls : r.2.cls = s.cls
  st : r.2.st = s.st
  imp : Imp s.tr r.2.tr
  bad : ∀ k, r.1 = some k → k < s.cls.length ∧ ∀ t ∈ s.cls.getD k [], -t ∈ tms r.2.tr
  fin : r.1 = none → Cq s.cls s.tr s.hd → Cq s.cls r.2.tr r.2.hd
theorem SvOk.step (S : SvOk n s) (hlt : s.hd < s.tr.length) : SvOk n { s with hd := s.hd + 1 } := ⟨S.cl, S.tr, S.nd, hlt, S.rs⟩
theorem SvOk.spread {s : Sv} (S : SvOk n s) (hlt : s.hd < s.tr.length) : Pr n s (LK.looks (usr s.cls (-(s.tr.getD s.hd (0, none)).1)) { s with hd := s.hd + 1 }) ∧ (LK.looks (usr s.cls (-(s.tr.getD s.hd (0, none)).1)) { s with hd := s.hd + 1 }).2.hd = s.hd + 1 := by
  have S1 := SvOk.step S hlt
  have hu : ∀ k ∈ usr s.cls (-(s.tr.getD s.hd (0, none)).1), k < s.cls.length := fun k hk => (usr_mem.mp hk).1
  have L := SvOk.looks (usr s.cls (-(s.tr.getD s.hd (0, none)).1)) { s with hd := s.hd + 1 } S1 hu
  refine ⟨⟨L.1, L.2.1, L.2.2.2.1, looks_imp _ { s with hd := s.hd + 1 }, fun k e => ?_, fun hn C => ?_⟩, L.2.2.1⟩
  · have h := L.2.2.2.2.2 k e
    exact ⟨hu k h.1, h.2⟩
  · rw [L.2.2.1]
    have nf := SvOk.looks_nf _ _ S1 hu hn
    have C1 : Cq s.cls s.tr (s.hd + 1) := by
      refine ⟨hlt, fun c hc => ?_, fun i t e => by have := C.dc i t e; omega⟩
      obtain ⟨u, hu1, hu2⟩ := C.nf c hc
      by_cases z : -u ∈ tms (s.tr.take (s.hd + 1))
      · obtain ⟨k, hk, rfl⟩ := List.getElem_of_mem hc
        have gk : s.cls.getD k [] = s.cls[k] := by rw [List.getD_eq_getElem?_getD, List.getElem?_eq_getElem hk]; rfl
        have tk : s.tr.take (s.hd + 1) = s.tr.take s.hd ++ [s.tr.getD s.hd (0, none)] := by rw [List.take_add_one, List.getD_eq_getElem?_getD, List.getElem?_eq_getElem hlt]; rfl
        rw [tk, tms_app] at z
        rcases List.mem_append.mp z with z | z
        · exact absurd z hu2
        · have hu' : u = -(s.tr.getD s.hd (0, none)).1 := by
            have : -u = (s.tr.getD s.hd (0, none)).1 := by simpa using z
            omega
          obtain ⟨x, h1, h2⟩ := nf k (usr_mem.mpr ⟨hk, by rw [← hu', gk]; exact hu1⟩)
          rw [gk] at h1
          refine ⟨x, h1, fun q => h2 ?_⟩
          obtain ⟨p, hp, e⟩ := List.mem_map.mp q
          exact List.mem_map.mpr ⟨p, List.mem_of_mem_take hp, e⟩
      · exact ⟨u, hu1, z⟩
    exact C1.imp (looks_imp _ { s with hd := s.hd + 1 })
theorem Pr.trans {s : Sv} {a : Option Nat × Sv} {r : Option Nat × Sv} (h : Pr n s a) (ha : a.1 = none) (g : Pr n a.2 r) : Pr n s r := by
  refine ⟨g.ok, g.cls.trans h.cls, g.st.trans h.st, h.imp.trans g.imp, fun k e => ?_, fun e C => ?_⟩
  · have := g.bad k e
    rw [h.cls] at this
    exact this
  · have := g.fin e
    rw [h.cls] at this
    exact this (h.fin ha C)
theorem SvOk.prop : ∀ (f : Nat) (s : Sv), SvOk n s → Pr n s (propF f s) ∧ ((propF f s).1 = none → n < s.hd + f → (propF f s).2.hd = (propF f s).2.tr.length)
  | 0, s, S => ⟨⟨S, rfl, rfl, Imp.refl _, fun k e => (by cases e), fun _ C => C⟩, fun _ h => by have := S.len; have := S.hd; show s.hd = s.tr.length; omega⟩
  | f + 1, s, S => by
    by_cases hlt : s.hd < s.tr.length
    · have P := SvOk.spread S hlt
      rw [propF, if_pos hlt]
      cases hc : (LK.looks (usr s.cls (-(s.tr.getD s.hd (0, none)).1)) { s with hd := s.hd + 1 }).1 with
      | some k =>
        dsimp only
        refine ⟨⟨P.1.ok, P.1.cls, P.1.st, P.1.imp, fun j e => ?_, fun e => by cases e⟩, fun e => by cases e⟩
        cases e
        exact P.1.bad k hc
      | none =>
        dsimp only
        have ih := SvOk.prop f _ P.1.ok
        refine ⟨P.1.trans hc ih.1, fun e h => ih.2 e ?_⟩
        rw [P.2]; omega
    · rw [propF, if_neg hlt]
      exact ⟨⟨S, rfl, rfl, Imp.refl _, fun k e => (by cases e), fun _ C => C⟩, fun _ _ => by have := S.hd; show s.hd = s.tr.length; omega⟩
end
/-! ### the solver, plain: what is learned -/
theorem dst_mem : ∀ (c r : List Int) (t : Int), t ∈ dst c r ↔ t ∈ c ∨ t ∈ r
  | [], r, t => by simp [dst]
  | x :: c, r, t => by
    unfold dst
    rw [dst_mem c _ t]
    split
    · rename_i h
      constructor
      · rintro (q | q)
        · exact .inl (by simp [q])
        · exact .inr q
      · rintro (q | q)
        · rcases List.mem_cons.mp q with rfl | q
          · exact .inr h
          · exact .inl q
        · exact .inr q
    · simp only [List.mem_append, List.mem_cons, List.not_mem_nil, or_false]
      constructor
      · rintro (q | q | q)
        · exact .inl (.inr q)
        · exact .inr q
        · exact .inl (.inl q)
      · rintro ((q | q) | q)
        · exact .inr (.inr q)
        · exact .inl q
        · exact .inr (.inl q)
theorem dst_nd : ∀ (c r : List Int), r.Nodup → (dst c r).Nodup
  | [], r, h => h
  | x :: c, r, h => by
    unfold dst
    refine dst_nd c _ ?_
    split
    · exact h
    · rename_i hx
      rw [List.nodup_append]
      refine ⟨h, by simp, fun a ha b hb => ?_⟩
      simp only [List.mem_singleton] at hb
      subst hb
      exact fun e => hx (e ▸ ha)
theorem dst_self : ∀ (c r : List Int), (r ++ c).Nodup → dst c r = r ++ c
  | [], r, _ => by simp [dst]
  | x :: c, r, h => by
    unfold dst
    have hx : x ∉ r := fun z => (List.nodup_append.mp h).2.2 x z x (by simp) rfl
    rw [if_neg hx, dst_self c (r ++ [x]) (by simpa using h)]
    simp
theorem opn_dst (asm c : List Int) : opn asm c = (dst c []).filter fun t => decide (-t ∉ asm) := by
  have key : ∀ (c r : List Int), c.foldl (fun r t => if -t ∉ asm ∧ t ∉ r then r ++ [t] else r) (r.filter fun t => decide (-t ∉ asm)) = (dst c r).filter fun t => decide (-t ∉ asm) := by
    intro c
    induction c with
    | nil => intro r; rfl
    | cons x c ih =>
      intro r
      rw [List.foldl_cons]
      unfold dst
      rw [← ih]
      congr 1
      by_cases h1 : -x ∈ asm
      · rw [if_neg (fun z => z.1 h1)]
        split
        · rfl
        · rw [List.filter_append, List.filter_cons, if_neg (by simpa using h1)]; simp
      · by_cases h2 : x ∈ r
        · rw [if_pos h2, if_neg fun z => z.2 (List.mem_filter.mpr ⟨h2, by simpa using h1⟩)]
        · rw [if_neg h2, if_pos ⟨h1, fun z => h2 (List.mem_filter.mp z).1⟩, List.filter_append, List.filter_cons, if_pos (by simpa using h1)]; simp
  have := key c []
  simpa [opn] using this
theorem filt_one {c : List Int} {p : Int → Bool} {t : Int} (hd : c.Nodup) (ht : t ∈ c) (hp : p t = true) (ho : ∀ o ∈ c, o ≠ t → p o = false) : c.filter p = [t] := by
  induction c with
  | nil => cases ht
  | cons x c ih =>
    have hn := List.nodup_cons.mp hd
    rw [List.filter_cons]
    by_cases e : x = t
    · subst e
      rw [if_pos hp]
      congr 1
      refine List.filter_eq_nil_iff.mpr fun o h => ?_
      rw [ho o (by simp [h]) fun z => hn.1 (z ▸ h)]
      simp
    · rw [if_neg (by rw [ho x (by simp) e]; simp)]
      exact ih hn.2 ((List.mem_cons.mp ht).resolve_left fun z => e z.symm) fun o h => ho o (by simp [h])
section
variable {n : Nat} {s : Sv}
theorem mrk_ok (S : SvOk n s) : ∀ (i : Nat) (m : List Int), i ≤ s.tr.length → (∀ x ∈ m, x ∈ mrkF s.cls (s.tr.take i).reverse m) ∧ (∀ x ∈ mrkF s.cls (s.tr.take i).reverse m, x ∈ m ∨ x ∈ tms (s.tr.take i)) ∧ ∀ (j : Nat) (t : Int) (k : Nat), j < i → s.tr[j]? = some (t, some k) → t ∈ mrkF s.cls (s.tr.take i).reverse m → ∀ o ∈ s.cls.getD k [], o ≠ t → -o ∈ mrkF s.cls (s.tr.take i).reverse m
  | 0, m, _ => by
    rw [List.take_zero]
    exact ⟨fun x h => h, fun x h => .inl h, fun j t k hj => by omega⟩
  | i + 1, m, hi => by
    have hlt : i < s.tr.length := by omega
    have tk : s.tr.take (i + 1) = s.tr.take i ++ [s.tr[i]] := by rw [List.take_add_one, List.getElem?_eq_getElem hlt]; rfl
    have ge : s.tr[i]? = some s.tr[i] := List.getElem?_eq_getElem hlt
    have sub : ∀ {x}, x ∈ tms (s.tr.take i) → x ∈ tms (s.tr.take (i + 1)) := fun h => by rw [tk, tms_app]; exact List.mem_append.mpr (.inl h)
    rw [show (s.tr.take (i + 1)).reverse = s.tr[i] :: (s.tr.take i).reverse by rw [tk, List.reverse_append]; rfl]
    generalize s.tr[i] = p at tk ge
    obtain ⟨u, r⟩ := p
    cases r with
    | none =>
      have ih := mrk_ok S i m (by omega)
      refine ⟨ih.1, fun x hx => (ih.2.1 x hx).imp id sub, fun j t k hj e => ?_⟩
      have : j < i := by
        rcases Nat.lt_or_ge j i with z | z
        · exact z
        · rw [show j = i by omega, ge] at e; cases e
      exact ih.2.2 j t k this e
    | some q =>
      have rs := S.rs i u q ge
      have ih := mrk_ok S i (if u ∈ m then m ++ ((s.cls.getD q []).filter fun o => decide (o ≠ u)).map (-·) else m) (by omega)
      have one := S.once ge
      show (∀ x ∈ m, x ∈ mrkF s.cls (s.tr.take i).reverse (if u ∈ m then m ++ ((s.cls.getD q []).filter fun o => decide (o ≠ u)).map (-·) else m)) ∧ _
      refine ⟨fun x hx => ih.1 x ?_, fun x hx => ?_, fun j t k hj e ht o h1 h2 => ?_⟩
      · split
        · exact List.mem_append.mpr (.inl hx)
        · exact hx
      · rcases ih.2.1 x hx with h | h
        · split at h
          · rcases List.mem_append.mp h with h | h
            · exact .inl h
            · obtain ⟨o, h3, rfl⟩ := List.mem_map.mp h
              obtain ⟨h4, h5⟩ := List.mem_filter.mp h3
              exact .inr (sub (rs.2.2 o h4 (by simpa using h5)))
          · exact .inl h
        · exact .inr (sub h)
      · rcases Nat.lt_or_ge j i with z | z
        · exact ih.2.2 j t k z e ht o h1 h2
        · rw [show j = i by omega, ge] at e
          cases e
          refine ih.1 _ ?_
          rcases ih.2.1 u ht with h | h
          · by_cases hu : u ∈ m
            · rw [if_pos hu]
              exact List.mem_append.mpr (.inr (List.mem_map.mpr ⟨o, List.mem_filter.mpr ⟨h1, by simpa using h2⟩, rfl⟩))
            · rw [if_neg hu] at h; exact absurd h hu
          · exact absurd h one
/-- the marks -/
abbrev mks (s : Sv) (k : Nat) : List Int := mrkF s.cls s.tr.reverse ((s.cls.getD k []).map (-·))
abbrev ismk (s : Sv) (k : Nat) : (Int × Option Nat) → Bool := fun p => decide (p.1 ∈ mks s k)
theorem mks_ok (S : SvOk n s) (k : Nat) : (∀ t ∈ s.cls.getD k [], -t ∈ mks s k) ∧ ∀ (j : Nat) (t : Int) (q : Nat), s.tr[j]? = some (t, some q) → t ∈ mks s k → ∀ o ∈ s.cls.getD q [], o ≠ t → -o ∈ mks s k := by
  have h := mrk_ok S s.tr.length ((s.cls.getD k []).map (-·)) (Nat.le_refl _)
  rw [List.take_length] at h
  refine ⟨fun t ht => h.1 _ (List.mem_map.mpr ⟨t, ht, rfl⟩), fun j t q e => h.2.2 j t q ?_ e⟩
  rcases Nat.lt_or_ge j s.tr.length with z | z
  · exact z
  · rw [List.getElem?_eq_none z] at e; cases e
theorem mem_filt {q : (Int × Option Nat) → Bool} {l : List (Int × Option Nat)} {t : Int} {M : List Int} (hq : ∀ p, q p = decide (p.1 ∈ M)) : t ∈ tms (l.filter q) ↔ t ∈ tms l ∧ t ∈ M := by
  simp only [tms, List.mem_map, List.mem_filter]
  constructor
  · rintro ⟨p, ⟨h1, h2⟩, rfl⟩
    rw [hq] at h2
    exact ⟨⟨p, h1, rfl⟩, by simpa using h2⟩
  · rintro ⟨⟨p, h1, rfl⟩, h2⟩
    exact ⟨p, ⟨h1, by rw [hq]; simpa using h2⟩, rfl⟩
/-- the hints prove the learned clause -/
theorem lrn_chk (S : SvOk n s) {k : Nat} (hk : k < s.cls.length) (hf : ∀ t ∈ s.cls.getD k [], -t ∈ tms s.tr) {cs : List (List Int)} (hc : s.cls = cs.map fun c => dst c []) :
    ∀ (B A : List (Int × Option Nat)), s.tr = A ++ B → ∀ asm : List Int, (∀ x, x ∈ asm ↔ x ∈ dcs (mkd s k) ∨ x ∈ tms (A.filter (ismk s k))) → chkS cs asm ((hns (B.filter (ismk s k)) ++ [k]).map fun k : Nat => (k : Int)) = true := by
  have hl : s.cls.length = cs.length := by rw [hc, List.length_map]
  have gd : ∀ j, s.cls.getD j [] = dst (cs.getD j []) [] := fun j => by
    rw [hc, List.getD_eq_getElem?_getD, List.getD_eq_getElem?_getD, List.getElem?_map]
    cases cs[j]? <;> rfl
  have Mk := mks_ok S k
  have sub : ∀ {x}, x ∈ dcs (mkd s k) → x ∈ tms s.tr := fun h => by
    obtain ⟨p, hp, rfl⟩ := List.mem_map.mp h
    exact List.mem_map.mpr ⟨p, (List.mem_filter.mp (List.mem_filter.mp hp).1).1, rfl⟩
  intro B
  induction B with
  | nil =>
    intro A hA asm ha
    rw [List.append_nil] at hA
    show chkS cs asm [(k : Int)] = true
    rw [chkS_cons, if_neg (by omega), if_pos]
    rw [Int.toNat_natCast, opn_dst, ← gd, List.length_eq_zero_iff, List.filter_eq_nil_iff]
    intro t ht
    have : -t ∈ asm := (ha _).mpr (.inr ((mem_filt (fun _ => rfl)).mpr ⟨by rw [← hA]; exact hf t ht, Mk.1 t ht⟩))
    simpa using this
  | cons p B ih =>
    intro A hA asm ha
    have hA' : s.tr = (A ++ [p]) ++ B := by rw [hA, List.append_assoc]; rfl
    have fa : (A ++ [p]).filter (ismk s k) = A.filter (ismk s k) ++ (if ismk s k p = true then [p] else []) := by
      rw [List.filter_append, List.filter_cons]
      split <;> simp
    by_cases hp : ismk s k p = true
    · rw [if_pos hp] at fa
      rw [List.filter_cons, if_pos hp]
      obtain ⟨t, r⟩ := p
      cases r with
      | none =>
        refine ih (A ++ [(t, none)]) hA' asm fun x => ?_
        rw [ha x, fa, tms_app, List.mem_append]
        constructor
        · rintro (h | h)
          · exact .inl h
          · exact .inr (.inl h)
        · rintro (h | h | h)
          · exact .inl h
          · exact .inr h
          · have : x = t := by simpa [tms] using h
            subst this
            refine .inl (List.mem_map.mpr ⟨(x, none), List.mem_filter.mpr ⟨List.mem_filter.mpr ⟨by rw [hA]; simp, hp⟩, rfl⟩, rfl⟩)
      | some q =>
        have ge : s.tr[A.length]? = some (t, some q) := by rw [hA, List.getElem?_append_right (Nat.le_refl _), Nat.sub_self]; rfl
        have rs := S.rs _ t q ge
        have tkA : s.tr.take A.length = A := by rw [hA, List.take_left]
        rw [tkA] at rs
        have tin : t ∈ tms s.tr := List.mem_map.mpr ⟨_, List.mem_of_getElem? ge, rfl⟩
        have tm : t ∈ mks s k := by simpa using hp
        have one : opn asm (cs.getD q []) = [t] := by
          rw [opn_dst, ← gd]
          have hm : s.cls.getD q [] ∈ s.cls := by rw [List.getD_eq_getElem?_getD, List.getElem?_eq_getElem rs.1]; exact List.getElem_mem _
          refine filt_one (S.cl _ hm).1 rs.2.1 (decide_eq_true fun z => S.neg tin ?_) fun o h1 h2 => decide_eq_false fun z => z ((ha _).mpr (.inr ((mem_filt (fun _ => rfl)).mpr ⟨rs.2.2 o h1 h2, Mk.2 _ t q ge tm o h1 h2⟩)))
          rcases (ha _).mp z with z | z
          · exact sub z
          · have := ((mem_filt (fun _ => rfl)).mp z).1
            rw [hA, tms_app]; exact List.mem_append.mpr (.inl this)
        show chkS cs asm ((q : Int) :: (hns (B.filter (ismk s k)) ++ [k]).map fun k : Nat => (k : Int)) = true
        rw [chkS_cons, if_neg (by omega), Int.toNat_natCast, one, if_neg (by simp), if_neg (by simp)]
        refine ih (A ++ [(t, some q)]) hA' _ fun x => ?_
        rw [List.mem_append, ha x, fa, tms_app, List.mem_append, or_assoc]
        simp [tms]
    · rw [if_neg hp, List.append_nil] at fa
      rw [List.filter_cons, if_neg hp]
      exact ih (A ++ [p]) hA' asm fun x => by rw [fa]; exact ha x
end
/-! ### the solver, plain: a learned clause on the trail -/
/-- the worth of a trail: implied terms count, the earlier the more -/
def val : Nat → List (Int × Option Nat) → Nat
  | _, [] => 0
  | n, p :: r => (if p.2.isSome = true then 2 ^ (n - 1) else 0) + val (n - 1) r
theorem val_lt : ∀ (tr : List (Int × Option Nat)) (n : Nat), tr.length ≤ n → val n tr < 2 ^ n
  | [], n, _ => Nat.pow_pos (by decide)
  | p :: r, 0, h => by simp at h
  | p :: r, n + 1, h => by
    have := val_lt r n (by simpa using h)
    unfold val
    rw [Nat.add_sub_cancel, Nat.pow_succ]
    split <;> omega
theorem val_app : ∀ (a b : List (Int × Option Nat)) (n : Nat), val n a ≤ val n (a ++ b)
  | [], b, n => Nat.zero_le _
  | p :: a, b, n => by
    have := val_app a b (n - 1)
    show (if p.2.isSome = true then 2 ^ (n - 1) else 0) + val (n - 1) a ≤ (if p.2.isSome = true then 2 ^ (n - 1) else 0) + val (n - 1) (a ++ b)
    omega
theorem val_cut : ∀ (P R : List (Int × Option Nat)) (n : Nat) (d x : Int) (j : Nat), (P ++ (d, none) :: R).length ≤ n → val n (P ++ (d, none) :: R) < val n (P ++ [(x, some j)])
  | [], R, n, d, x, j, h => by
    have := val_lt R (n - 1) (by simp at h; omega)
    show (if (none : Option Nat).isSome = true then 2 ^ (n - 1) else 0) + val (n - 1) R < (if (some j).isSome = true then 2 ^ (n - 1) else 0) + val (n - 1) []
    simp [val]
    exact this
  | p :: P, R, n, d, x, j, h => by
    have := val_cut P R (n - 1) d x j (by simp at h ⊢; omega)
    show (if p.2.isSome = true then 2 ^ (n - 1) else 0) + val (n - 1) (P ++ (d, none) :: R) < (if p.2.isSome = true then 2 ^ (n - 1) else 0) + val (n - 1) (P ++ [(x, some j)])
    omega
theorem cut_split : ∀ {tr : List (Int × Option Nat)} {d : Int} {r : Option Nat}, (tms tr).Nodup → (d, r) ∈ tr → ∃ R, tr = cutF tr d ++ (d, r) :: R
  | [], _, _, _, h => by cases h
  | p :: tr, d, r, hd, h => by
    have hn := List.nodup_cons.mp hd
    unfold cutF
    rw [List.takeWhile_cons]
    by_cases e : p.1 = d
    · rw [decide_eq_false (by simpa using e), if_neg (by simp)]
      rcases List.mem_cons.mp h with h | h
      · exact ⟨tr, by rw [h]; rfl⟩
      · exact absurd (List.mem_map.mpr ⟨(d, r), h, e.symm⟩) hn.1
    · rw [decide_eq_true (by simpa using e), if_pos rfl]
      have h := (List.mem_cons.mp h).resolve_left fun z => e (by rw [← z])
      obtain ⟨R, e2⟩ := cut_split hn.2 h
      exact ⟨R, by rw [List.cons_append]; congr 1⟩
theorem filt_split {q : (Int × Option Nat) → Bool} {tr A B : List (Int × Option Nat)} {p : Int × Option Nat} (e : tr = A ++ p :: B) (hq : q p = true) {x : Int × Option Nat} (hx : x ∈ tr.filter q) (hne : x ≠ p) (hlast : ∀ y ∈ B, q y = false) : x ∈ A := by
  obtain ⟨h1, h2⟩ := List.mem_filter.mp hx
  rw [e] at h1
  rcases List.mem_append.mp h1 with h | h
  · exact h
  · rcases List.mem_cons.mp h with h | h
    · exact absurd h hne
    · rw [hlast x h] at h2; cases h2
section
variable {n : Nat} {s : Sv}
abbrev dsF (s : Sv) (k : Nat) : List Int := dcs (mkd s k)
abbrev lcl (s : Sv) (k : Nat) : List Int := ((dsF s k).map (-·)).reverse
theorem dsF_mem {k : Nat} {d : Int} (h : d ∈ dsF s k) : (d, none) ∈ s.tr := by
  obtain ⟨p, hp, rfl⟩ := List.mem_map.mp h
  obtain ⟨h1, h2⟩ := List.mem_filter.mp hp
  have h3 := (List.mem_filter.mp h1).1
  obtain ⟨t, r⟩ := p
  cases r with
  | none => exact h3
  | some r => simp at h2
theorem tms_sub {a b : List (Int × Option Nat)} (h : List.Sublist a b) : List.Sublist (tms a) (tms b) := h.map _
theorem dsF_sub (k : Nat) : List.Sublist (dsF s k) (tms s.tr) := tms_sub ((List.filter_sublist).trans List.filter_sublist)
/-- the last decision, and what stands before it -/
theorem ds_last {k : Nat} (S : SvOk n s) (h : dsF s k ≠ []) : ∃ d ds R, dsF s k = ds ++ [d] ∧ s.tr = cutF s.tr d ++ (d, none) :: R ∧ ∀ x ∈ ds, x ∈ tms (cutF s.tr d) := by
  have hd := nd_of_map S.nd
  obtain ⟨ds, d, e⟩ : ∃ ds d, dsF s k = ds ++ [d] := ⟨_, _, (List.dropLast_concat_getLast h).symm⟩
  have hm : (d, none) ∈ s.tr := dsF_mem (k := k) (by rw [e]; simp)
  obtain ⟨R, eR⟩ := cut_split hd hm
  refine ⟨d, ds, R, e, eR, fun x hx => ?_⟩
  have sub : List.Sublist (ds ++ [d]) (tms (cutF s.tr d) ++ d :: tms R) := by
    have := dsF_sub (s := s) k
    rw [e] at this
    have e2 : tms s.tr = tms (cutF s.tr d) ++ d :: tms R := (congrArg tms eR).trans (tms_app _ _)
    rwa [e2] at this
  rw [eR, tms_app] at hd
  have hnR : d ∉ tms R := by
    have := (List.nodup_append.mp hd).2.1
    exact (List.nodup_cons.mp this).1
  have hn1 : d ∉ tms (cutF s.tr d) := fun z => (List.nodup_append.mp hd).2.2 d z d (by simp [tms]) rfl
  obtain ⟨l1, l2, e3, s1, s2⟩ := List.sublist_append_iff.mp sub
  rcases List.eq_nil_or_concat l2 with rfl | ⟨l3, y, rfl⟩
  · rw [List.append_nil] at e3
    exact absurd (s1.subset (by rw [← e3]; simp)) hn1
  · rw [List.concat_eq_append, ← List.append_assoc] at e3
    obtain ⟨e4, e5⟩ := List.append_inj' e3 rfl
    have : d = y := by simpa using e5
    subst this
    have : l3 = [] := by
      rw [List.concat_eq_append] at s2
      cases l3 with
      | nil => rfl
      | cons z r =>
        exfalso
        rw [List.cons_append] at s2
        cases s2 with
        | cons _ h => exact hnR (h.subset (by simp))
        | cons_cons _ h => exact hnR (h.subset (by simp))
    subst this
    rw [List.append_nil] at e4
    rw [e4] at hx
    exact s1.subset hx
theorem lrnF_nil {k : Nat} (h : dsF s k = []) : lrnF s k = (false, { s with st := s.st ++ [([], hns (mkd s k) ++ [k])] }) := by
  have h : dcs (mkd s k) = [] := h
  unfold lrnF
  simp only [h]
  rfl
theorem lrnF_snoc {k : Nat} {ds : List Int} {d : Int} (h : dsF s k = ds ++ [d]) : lrnF s k = (true, ⟨s.cls ++ [lcl s k], cutF s.tr d ++ [(-d, some s.cls.length)], (cutF s.tr d).length, s.st ++ [(lcl s k, hns (mkd s k) ++ [k])]⟩) := by
  have h : dcs (mkd s k) = ds ++ [d] := h
  have e : lcl s k = -d :: (ds.map (-·)).reverse := by
    show ((dcs (mkd s k)).map (-·)).reverse = _
    rw [h, List.map_append, List.reverse_append]; rfl
  rw [e]
  unfold lrnF
  simp only [h]
  rw [if_neg (by simp)]
  have e2 : ((ds ++ [d]).map fun x => -x).reverse = -d :: (ds.map fun x => -x).reverse := by rw [List.map_append, List.reverse_append]; rfl
  have e3 : (ds ++ [d]).getD ((ds ++ [d]).length - 1) 0 = d := by rw [List.length_append, List.length_singleton, Nat.add_sub_cancel, List.getD_eq_getElem?_getD, List.getElem?_append_right (Nat.le_refl _), Nat.sub_self]; rfl
  rw [e2, e3]
  rfl
theorem lcl_mem {k : Nat} {t : Int} : t ∈ lcl s k ↔ -t ∈ dsF s k := by
  rw [List.mem_reverse, List.mem_map]
  constructor
  · rintro ⟨x, h, rfl⟩; rwa [Int.neg_neg]
  · intro h; exact ⟨-t, h, Int.neg_neg t⟩
theorem lcl_nd {k : Nat} (S : SvOk n s) : (lcl s k).Nodup ∧ ∀ t ∈ lcl s k, 1 ≤ t.natAbs ∧ t.natAbs ≤ n := by
  have hd : (dsF s k).Nodup := (dsF_sub k).nodup (nd_of_map S.nd)
  constructor
  · have rv : ∀ {l : List Int}, l.Nodup → l.reverse.Nodup := fun {l} h => by
      induction l with
      | nil => exact List.nodup_nil
      | cons a r ih =>
        have hn := List.nodup_cons.mp h
        rw [List.reverse_cons, List.nodup_append]
        refine ⟨ih hn.2, by simp, fun x hx y hy => ?_⟩
        simp only [List.mem_singleton] at hy
        subst hy
        exact fun e => hn.1 (by rw [← e]; simpa using hx)
    refine rv ?_
    have : ∀ {l : List Int}, l.Nodup → (l.map (-·)).Nodup := by
      intro l hl
      induction l with
      | nil => exact List.nodup_nil
      | cons a r ih =>
        rw [List.map_cons, List.nodup_cons]
        have hn := List.nodup_cons.mp hl
        refine ⟨fun z => ?_, ih hn.2⟩
        obtain ⟨x, h1, h2⟩ := List.mem_map.mp z
        exact hn.1 (by rw [show a = x by omega]; exact h1)
    exact this hd
  · intro t ht
    have := S.tr (-t) ((dsF_sub k).subset (lcl_mem.mp ht))
    omega
/-- the search goes on with what was learned -/
theorem lrn_ok (S : SvOk n s) {k h : Nat} (C : Cq s.cls s.tr h) {ds : List Int} {d : Int} (e : dsF s k = ds ++ [d]) : SvOk n (lrnF s k).2 ∧ Cq (lrnF s k).2.cls (lrnF s k).2.tr (lrnF s k).2.hd ∧ val n s.tr < val n (lrnF s k).2.tr := by
  obtain ⟨d', ds', R, e', eR, hb⟩ := ds_last (k := k) S (by rw [e]; simp)
  obtain ⟨rfl, ed⟩ := List.append_inj' (e.symm.trans e') rfl
  have : d = d' := by simpa using ed
  subst this
  rw [lrnF_snoc e]
  dsimp only
  have L := lcl_nd (k := k) S
  have din : d ∈ tms s.tr := List.mem_map.mpr ⟨_, dsF_mem (k := k) (by rw [e]; simp), rfl⟩
  have dr := S.tr d din
  have hlen := S.len
  have lenE : s.tr.length = (cutF s.tr d).length + 1 + R.length := by
    conv => lhs; rw [eR]
    rw [List.length_append, List.length_cons]; omega
  have nd := S.nd
  have sub : ∀ {x}, x ∈ tms (cutF s.tr d) → x ∈ tms s.tr := fun h => by rw [eR, tms_app]; exact List.mem_append.mpr (.inl h)
  have dnot : d ∉ tms (cutF s.tr d) := fun z => by
    have hd := nd_of_map S.nd
    rw [eR, tms_app] at hd
    exact (List.nodup_append.mp hd).2.2 d z d (by simp [tms]) rfl
  have tkc : ∀ i, i ≤ (cutF s.tr d).length → s.tr.take i = (cutF s.tr d).take i := fun i hi => by
    conv => lhs; rw [eR]
    rw [List.take_append_of_le_length hi]
  have gtc : ∀ i, i < (cutF s.tr d).length → s.tr[i]? = (cutF s.tr d)[i]? := fun i hi => by
    conv => lhs; rw [eR]
    rw [List.getElem?_append_left hi]
  have hdc : (cutF s.tr d).length ≤ h := C.dc _ d (by
    generalize cutF s.tr d = P at eR
    rw [eR, List.getElem?_append_right (Nat.le_refl _), Nat.sub_self]; rfl)
  generalize cutF s.tr d = P at *
  have S1 : SvOk n ⟨s.cls ++ [lcl s k], P, P.length, s.st⟩ := by
    refine ⟨fun c hc => ?_, fun t ht => S.tr t (sub ht), ?_, Nat.le_refl _, fun i t q hi => ?_⟩
    · rcases List.mem_append.mp hc with hc | hc
      · exact S.cl c hc
      · rw [List.mem_singleton.mp hc]; exact L
    · have : List.Sublist P s.tr := by rw [eR]; exact List.sublist_append_left _ _
      exact ((tms_sub this).map _).nodup nd
    · dsimp only at hi ⊢
      have hlt : i < P.length := by
        rcases Nat.lt_or_ge i P.length with z | z
        · exact z
        · rw [List.getElem?_eq_none z] at hi; cases hi
      have rs := S.rs i t q (by rw [gtc i hlt]; exact hi)
      rw [tkc i (by omega)] at rs
      have gq : (s.cls ++ [lcl s k]).getD q [] = s.cls.getD q [] := by rw [List.getD_eq_getElem?_getD, List.getD_eq_getElem?_getD, List.getElem?_append_left rs.1]
      rw [gq]
      exact ⟨by rw [List.length_append]; omega, rs.2⟩
  have gl : (s.cls ++ [lcl s k]).getD s.cls.length [] = lcl s k := by rw [List.getD_eq_getElem?_getD, List.getElem?_append_right (Nat.le_refl _), Nat.sub_self]; rfl
  refine ⟨?_, ?_, ?_⟩
  · have S2 := S1.add (t := -d) (r := some s.cls.length) (by omega) (fun z => S.neg din (sub z)) (by rw [Int.neg_neg]; exact dnot) fun q hq => by
      cases hq
      dsimp only
      rw [gl]
      refine ⟨by rw [List.length_append, List.length_singleton]; omega, lcl_mem.mpr (by rw [Int.neg_neg, e]; simp), fun o h1 h2 => ?_⟩
      have := lcl_mem.mp h1
      rw [e] at this
      rcases List.mem_append.mp this with h3 | h3
      · exact hb _ h3
      · have : -o = d := by simpa using h3
        exact absurd (by omega) h2
    exact ⟨S2.cl, S2.tr, S2.nd, S2.hd, S2.rs⟩
  · refine ⟨by rw [List.length_append]; omega, fun c hc => ?_, fun i t hi => ?_⟩
    · rw [List.take_left]
      rcases List.mem_append.mp hc with hc | hc
      · obtain ⟨u, h1, h2⟩ := C.nf c hc
        refine ⟨u, h1, fun z => h2 ?_⟩
        have e3 : tms P = tms (s.tr.take P.length) := by rw [tkc _ (Nat.le_refl _), List.take_length]
        rw [e3] at z
        obtain ⟨p, hp, e4⟩ := List.mem_map.mp z
        refine List.mem_map.mpr ⟨p, ?_, e4⟩
        have : s.tr.take P.length = (s.tr.take h).take P.length := by rw [List.take_take, Nat.min_eq_left hdc]
        rw [this] at hp
        exact List.mem_of_mem_take hp
      · rw [List.mem_singleton.mp hc]
        exact ⟨-d, lcl_mem.mpr (by rw [Int.neg_neg, e]; simp), by rw [Int.neg_neg]; exact dnot⟩
    · rcases Nat.lt_or_ge i P.length with z | z
      · omega
      · rw [List.getElem?_append_right z] at hi
        have : i - P.length = 0 := by
          rcases Nat.eq_zero_or_pos (i - P.length) with z | z
          · exact z
          · rw [List.getElem?_eq_none (by simp only [List.length_singleton]; omega)] at hi; cases hi
        rw [this] at hi
        cases hi
  · conv => lhs; rw [eR]
    exact val_cut P R n d _ _ (by rw [← eR]; exact hlen)
end
/-! ### the solver, plain: the whole search -/
/-- a right list of steps after these clauses -/
def Steps (os : List (List Int)) (st : List (List Int × List Nat)) : Prop := ∀ (j : Nat) (p : List Int × List Nat), st[j]? = some p → chkS (os ++ (st.take j).map (·.1)) (p.1.map (-·)) (p.2.map fun k : Nat => (k : Int)) = true
theorem Steps.snoc {os : List (List Int)} {st : List (List Int × List Nat)} {p : List Int × List Nat} (h : Steps os st) (hp : chkS (os ++ st.map (·.1)) (p.1.map (-·)) (p.2.map fun k : Nat => (k : Int)) = true) : Steps os (st ++ [p]) := by
  intro j q e
  rcases Nat.lt_or_ge j st.length with z | z
  · rw [List.getElem?_append_left z] at e
    rw [List.take_append_of_le_length (by omega)]
    exact h j q e
  · rw [List.getElem?_append_right z] at e
    have : j - st.length = 0 := by
      rcases Nat.eq_zero_or_pos (j - st.length) with z | z
      · exact z
      · rw [List.getElem?_eq_none (by simp only [List.length_singleton]; omega)] at e; cases e
    rw [this] at e
    cases e
    rw [show j = st.length by omega, List.take_left]
    exact hp
/-- where the search stands -/
structure Iv (n : Nat) (os : List (List Int)) (cn : Nat) (cf : Option Nat) (s : Sv) : Prop where
  ok : SvOk n s
  cls : s.cls = (os ++ s.st.map (·.1)).map fun c => dst c []
  st : Steps os s.st
  num : s.st.length = cn
  rng : ∀ p ∈ s.st, (∀ t ∈ p.1, 1 ≤ t.natAbs ∧ t.natAbs ≤ n) ∧ p.1 ≠ [] ∧ p.1.Nodup
  hl : ∀ p ∈ s.st, p.2.length ≤ n + 1 ∧ ∀ h ∈ p.2, h < os.length + cn
  vl : cn ≤ val n s.tr
  cq : (∃ h, Cq s.cls s.tr h) ∨ ∀ p ∈ s.tr, p.2.isSome = true
  no : cf = none → Cq s.cls s.tr s.hd
  bad : ∀ k, cf = some k → k < s.cls.length ∧ ∀ t ∈ s.cls.getD k [], -t ∈ tms s.tr
section
variable {n cn : Nat} {s : Sv} {os : List (List Int)} {k : Nat}
theorem Iv.len (I : Iv n os cn cf s) : s.cls.length = os.length + cn := by rw [I.cls, List.length_map, List.length_append, List.length_map, I.num]
theorem Iv.prop (I : Iv n os cn none s) : Iv n os cn (propF (n + 1) s).1 (propF (n + 1) s).2 ∧ ((propF (n + 1) s).1 = none → (propF (n + 1) s).2.hd = (propF (n + 1) s).2.tr.length) ∧ s.tr.length ≤ (propF (n + 1) s).2.tr.length := by
  obtain ⟨P, f⟩ := SvOk.prop (n + 1) s I.ok
  have C := I.no rfl
  refine ⟨⟨P.ok, by rw [P.cls, P.st]; exact I.cls, by rw [P.st]; exact I.st, by rw [P.st]; exact I.num, by rw [P.st]; exact I.rng, by rw [P.st]; exact I.hl, ?_, .inl ⟨s.hd, by rw [P.cls]; exact C.imp P.imp⟩, fun e => by rw [P.cls]; exact P.fin e C, fun k e => by rw [P.cls]; exact P.bad k e⟩, fun e => f e (by omega), ?_⟩
  · obtain ⟨u, e, _⟩ := P.imp
    rw [e]
    exact Nat.le_trans I.vl (val_app _ _ _)
  · obtain ⟨u, e, _⟩ := P.imp
    rw [e, List.length_append]; omega
theorem Iv.chk (I : Iv n os cn (some k) s) : chkS (os ++ s.st.map (·.1)) ((lcl s k).map (-·)) ((hns (mkd s k) ++ [k]).map fun k : Nat => (k : Int)) = true := by
  obtain ⟨hk, hf⟩ := I.bad k rfl
  refine lrn_chk I.ok hk hf I.cls s.tr [] (by simp) _ fun x => ?_
  rw [List.map_reverse, List.mem_reverse, List.map_map]
  have : ((fun x : Int => -x) ∘ fun x => -x) = id := by funext x; simp
  rw [this, List.map_id]
  simp [tms]
theorem Iv.hints (I : Iv n os cn (some k) s) : (hns (mkd s k) ++ [k]).length ≤ n + 1 := by
  have h1 : (hns (mkd s k)).length ≤ (mkd s k).length := List.length_filterMap_le _ _
  have h2 : (mkd s k).length ≤ s.tr.length := List.length_filter_le _ _
  have h3 := I.ok.len
  rw [List.length_append, List.length_singleton]
  omega
theorem Iv.hintv (I : Iv n os cn (some k) s) : ∀ h ∈ hns (mkd s k) ++ [k], h < os.length + cn := by
  intro h hh
  rw [← I.len]
  rcases List.mem_append.mp hh with hh | hh
  · obtain ⟨p, hp, e⟩ := List.mem_filterMap.mp hh
    obtain ⟨i, hi⟩ := List.getElem?_of_mem (List.mem_filter.mp hp).1
    obtain ⟨t, r⟩ := p
    have e : r = some h := e
    subst e
    exact (I.ok.rs i t h hi).1
  · rw [List.mem_singleton.mp hh]
    exact (I.bad k rfl).1
theorem Iv.lrn (I : Iv n os cn (some k) s) (h : dsF s k ≠ []) : (lrnF s k).1 = true ∧ Iv n os (cn + 1) none (lrnF s k).2 := by
  obtain ⟨ds, d, e⟩ : ∃ ds d, dsF s k = ds ++ [d] := ⟨_, _, (List.dropLast_concat_getLast h).symm⟩
  have C : ∃ h, Cq s.cls s.tr h := by
    rcases I.cq with C | C
    · exact C
    · have := C _ (dsF_mem (s := s) (k := k) (d := d) (by rw [e]; simp))
      simp at this
  obtain ⟨h, C⟩ := C
  have L := lrn_ok I.ok C e
  have ch := I.chk
  have hn := I.hints
  have hv := I.hintv
  have nd := lcl_nd (k := k) I.ok
  have ne : lcl s k ≠ [] := fun z => by
    have : -d ∈ lcl s k := lcl_mem.mpr (by rw [Int.neg_neg, e]; simp)
    rw [z] at this; cases this
  have ev : val n s.tr < val n (lrnF s k).2.tr := L.2.2
  rw [lrnF_snoc e] at L ev ⊢
  have self : dst (lcl s k) [] = lcl s k := by have := dst_self (lcl s k) [] (by simpa using nd.1); simpa using this
  refine ⟨rfl, L.1, ?_, I.st.snoc ch, by simp [I.num], fun p hp => ?_, fun p hp => ?_, by have := I.vl; omega, .inl ⟨_, L.2.1⟩, fun _ => L.2.1, fun k e => by cases e⟩
  · dsimp only
    have e4 : os ++ (s.st ++ [(lcl s k, hns (mkd s k) ++ [k])]).map (·.1) = (os ++ s.st.map (·.1)) ++ [lcl s k] := by simp
    rw [e4, List.map_append, ← I.cls]
    simp only [List.map_cons, List.map_nil, self]
  · rcases List.mem_append.mp hp with hp | hp
    · exact I.rng p hp
    · rw [List.mem_singleton.mp hp]; exact ⟨nd.2, ne, nd.1⟩
  · rcases List.mem_append.mp hp with hp | hp
    · have := I.hl p hp
      exact ⟨this.1, fun h hh => by have := this.2 h hh; omega⟩
    · rw [List.mem_singleton.mp hp]; exact ⟨hn, fun h hh => by have := hv h hh; omega⟩
/-- a whole refutation -/
structure Rf (n : Nat) (os : List (List Int)) (st : List (List Int × List Nat)) : Prop where
  steps : Steps os st
  rng : ∀ p ∈ st, (∀ t ∈ p.1, 1 ≤ t.natAbs ∧ t.natAbs ≤ n) ∧ p.1.Nodup
  hl : ∀ p ∈ st, p.2.length ≤ n + 1 ∧ ∀ h ∈ p.2, h < os.length + st.length
  last : ∃ pre hs, st = pre ++ [([], hs)]
theorem Iv.end_ (I : Iv n os cn (some k) s) (h : dsF s k = []) : (lrnF s k).1 = false ∧ Rf n os (lrnF s k).2.st ∧ (lrnF s k).2.st.length = cn + 1 := by
  have ch := I.chk
  have hn := I.hints
  have hv := I.hintv
  have e : lcl s k = [] := by unfold lcl; rw [h]; rfl
  rw [e] at ch
  rw [lrnF_nil h]
  refine ⟨rfl, ⟨I.st.snoc ch, fun p hp => ?_, fun p hp => ?_, _, _, rfl⟩, by simp [I.num]⟩
  · rcases List.mem_append.mp hp with hp | hp
    · exact ⟨(I.rng p hp).1, (I.rng p hp).2.2⟩
    · rw [List.mem_singleton.mp hp]; simp
  · have hl : (s.st ++ [(([] : List Int), hns (mkd s k) ++ [k])]).length = cn + 1 := by simp [I.num]
    rw [hl]
    rcases List.mem_append.mp hp with hp | hp
    · have := I.hl p hp
      exact ⟨this.1, fun h hh => by have := this.2 h hh; omega⟩
    · rw [List.mem_singleton.mp hp]; exact ⟨hn, fun h hh => by have := hv h hh; omega⟩
theorem freeV_some {tr : List (Int × Option Nat)} {n v : Nat} (h : freeV tr n = some v) : 1 ≤ v ∧ v ≤ n ∧ (v : Int) ∉ tms tr ∧ -(v : Int) ∉ tms tr := by
  unfold freeV at h
  have h1 := List.find?_some h
  have h2 := List.mem_of_find?_eq_some h
  obtain ⟨i, hi, rfl⟩ := List.mem_map.mp h2
  have := List.mem_range.mp hi
  have h1 := of_decide_eq_true h1
  exact ⟨by omega, by omega, h1⟩
theorem freeV_none {tr : List (Int × Option Nat)} {n v : Nat} (h : freeV tr n = none) (h1 : 1 ≤ v) (h2 : v ≤ n) : (v : Int) ∈ tms tr ∨ -(v : Int) ∈ tms tr := by
  unfold freeV at h
  have := List.find?_eq_none.mp h v (List.mem_map.mpr ⟨v - 1, List.mem_range.mpr (by omega), by omega⟩)
  have := of_decide_eq_false (by simpa using this : decide ((v : Int) ∉ tms tr ∧ -(v : Int) ∉ tms tr) = false)
  exact Classical.byContradiction fun z => this ⟨fun q => z (.inl q), fun q => z (.inr q)⟩
theorem Iv.dec (I : Iv n os cn none s) (hh : s.hd = s.tr.length) {v : Nat} (h : freeV s.tr n = some v) : Iv n os cn none { s with tr := s.tr ++ [(-(v : Int), none)] } := by
  obtain ⟨v1, v2, v3, v4⟩ := freeV_some h
  have C := I.no rfl
  have C' : Cq s.cls (s.tr ++ [(-(v : Int), none)]) s.hd := by
    refine ⟨by rw [List.length_append]; have := C.le; omega, ?_, fun i t e => ?_⟩
    · rw [List.take_append_of_le_length C.le]; exact C.nf
    · rcases Nat.lt_or_ge i s.tr.length with z | z
      · omega
      · rw [List.getElem?_append_right z] at e
        have : i - s.tr.length = 0 := by
          rcases Nat.eq_zero_or_pos (i - s.tr.length) with z | z
          · exact z
          · rw [List.getElem?_eq_none (by simp only [List.length_singleton]; omega)] at e; cases e
        omega
  refine ⟨I.ok.add (by omega) v4 (by rw [Int.neg_neg]; exact v3) (fun k e => by cases e), I.cls, I.st, I.num, I.rng, I.hl, Nat.le_trans I.vl (val_app _ _ _), .inl ⟨_, C'⟩, fun _ => C', fun k e => by cases e⟩
/-- the model that is found -/
structure Md (n : Nat) (os : List (List Int)) (vs : List Int) : Prop where
  len : vs.length = n
  bit : ∀ x ∈ vs, x = 0 ∨ x = 1
  tru : ∀ c ∈ os, tru vs c = true
theorem asgF_at {tr : List (Int × Option Nat)} {n i : Nat} (h : i < n) : (asgF tr n).getD i 0 = if ((i : Int) + 1) ∈ tms tr then 1 else 0 := by
  unfold asgF
  rw [List.getD_eq_getElem?_getD, List.getElem?_map, List.getElem?_range h]; rfl
theorem Iv.model (I : Iv n os cn none s) (hh : s.hd = s.tr.length) (h : freeV s.tr n = none) : Md n os (asgF s.tr n) := by
  refine ⟨by simp [asgF], fun x hx => ?_, fun c hc => ?_⟩
  · obtain ⟨i, _, rfl⟩ := List.mem_map.mp hx
    split
    · exact .inr rfl
    · exact .inl rfl
  · have C := (I.no rfl).nf
    rw [hh, List.take_length] at C
    have hm : dst c [] ∈ s.cls := by rw [I.cls]; exact List.mem_map.mpr ⟨c, List.mem_append.mpr (.inl hc), rfl⟩
    obtain ⟨u, h1, h2⟩ := C _ hm
    have hr := (I.ok.cl _ hm).2 u h1
    have h3 : u ∈ c := ((dst_mem c [] u).mp h1).resolve_right (by simp)
    refine tru_mem h3 ?_
    rcases Int.lt_or_le 0 u with z | z
    · rw [tv_pos z, asgF_at (by omega), show (((u - 1).toNat : Nat) : Int) + 1 = u by omega]
      rcases freeV_none (v := u.toNat) h (by omega) (by omega) with q | q
      · rw [show ((u.toNat : Nat) : Int) = u by omega] at q
        rw [if_pos q]; rfl
      · rw [show ((u.toNat : Nat) : Int) = u by omega] at q
        exact absurd q h2
    · rw [tv_neg (by omega), asgF_at (by omega), show (((-u - 1).toNat : Nat) : Int) + 1 = -u by omega, if_neg h2]; rfl
/-- the fuel -/
abbrev mu (n L cn : Nat) (s : Sv) : Nat := (L + 1 - cn) * (n + 2) + (n + 1 - s.tr.length)
theorem mu_lrn {L cn : Nat} {s s' : Sv} (h : cn + 1 ≤ L) : mu n L (cn + 1) s' + 1 ≤ mu n L cn s := by
  have : L + 1 - cn = (L + 1 - (cn + 1)) + 1 := by omega
  show (L + 1 - (cn + 1)) * (n + 2) + _ + 1 ≤ (L + 1 - cn) * (n + 2) + _
  rw [this, Nat.succ_mul]
  omega
/-- what the search answers -/
def AnsOk (n L : Nat) (os : List (List Int)) : Ans → Prop
  | .unknown => L < 2 ^ n
  | .refuted st => Rf n os st
  | .model vs => Md n os vs
theorem srch_ok (L : Nat) : ∀ (f : Nat) (cf : Option Nat) (cn : Nat) (s : Sv), Iv n os cn cf s → cn ≤ L → mu n L cn s ≤ f → AnsOk n L os (srch n L f cf cn s)
  | 0, cf, cn, s, I, hc, hm => by
    have := I.ok.len
    have : mu n L cn s ≥ 1 := by show (L + 1 - cn) * (n + 2) + (n + 1 - s.tr.length) ≥ 1; omega
    omega
  | f + 1, cf, cn, s, I, hc, hm => by
    unfold srch
    have key : ∀ r : Option Nat × Sv, Iv n os cn r.1 r.2 → (r.1 = none → r.2.hd = r.2.tr.length) → s.tr.length ≤ r.2.tr.length → AnsOk n L os (match r.1 with
      | some k => if cn + 1 > L then Ans.unknown else if (lrnF r.2 k).1 = true then srch n L f none (cn + 1) (lrnF r.2 k).2 else .refuted (lrnF r.2 k).2.st
      | none => match freeV r.2.tr n with
        | some v => srch n L f none cn { r.2 with tr := r.2.tr ++ [(-(v : Int), none)] }
        | none => .model (asgF r.2.tr n)) := by
      intro r J hh hl
      obtain ⟨c, s'⟩ := r
      dsimp only at J hh hl ⊢
      cases c with
      | some k =>
        dsimp only
        split
        · rename_i hgt
          show L < 2 ^ n
          have := J.vl
          have := val_lt s'.tr n J.ok.len
          omega
        · rename_i hgt
          by_cases hd : dsF s' k = []
          · have E := J.end_ hd
            rw [if_neg (by rw [E.1]; simp)]
            exact E.2.1
          · have E := J.lrn hd
            rw [if_pos E.1]
            refine srch_ok L f none (cn + 1) _ E.2 (by omega) ?_
            have := mu_lrn (n := n) (L := L) (cn := cn) (s := s) (s' := (lrnF s' k).2) (by omega)
            omega
      | none =>
        dsimp only
        cases hv : freeV s'.tr n with
        | none => exact J.model (hh rfl) hv
        | some v =>
          have E := J.dec (hh rfl) hv
          refine srch_ok L f none cn _ E hc ?_
          have h1 := E.ok.len
          have h2 : mu n L cn { s' with tr := s'.tr ++ [(-(v : Int), none)] } + 1 ≤ mu n L cn s := by
            show (L + 1 - cn) * (n + 2) + (n + 1 - (s'.tr ++ [(-(v : Int), none)]).length) + 1 ≤ (L + 1 - cn) * (n + 2) + (n + 1 - s.tr.length)
            dsimp only at h1
            rw [List.length_append, List.length_singleton] at h1 ⊢
            omega
          omega
    cases cf with
    | some k => exact key (some k, s) I (fun e => by cases e) (Nat.le_refl _)
    | none => exact key (propF (n + 1) s) I.prop.1 I.prop.2.1 I.prop.2.2
/-- another limit -/
theorem srch_lim (L L' : Nat) : ∀ (f f' : Nat) (cf : Option Nat) (cn : Nat) (s : Sv), Iv n os cn cf s → cn ≤ L → cn ≤ L' → mu n L cn s ≤ f → mu n L' cn s ≤ f' → ∀ st, srch n L f cf cn s = .refuted st → cn < st.length ∧ st.length ≤ L ∧ (st.length ≤ L' → srch n L' f' cf cn s = .refuted st) ∧ (L' < st.length → srch n L' f' cf cn s = .unknown)
  | 0, _, cf, cn, s, I, hc, hc', hm, hm', st, e => by
    have := I.ok.len
    have : mu n L cn s ≥ 1 := by show (L + 1 - cn) * (n + 2) + (n + 1 - s.tr.length) ≥ 1; omega
    omega
  | _, 0, cf, cn, s, I, hc, hc', hm, hm', st, e => by
    have := I.ok.len
    have : mu n L' cn s ≥ 1 := by show (L' + 1 - cn) * (n + 2) + (n + 1 - s.tr.length) ≥ 1; omega
    omega
  | f + 1, f' + 1, cf, cn, s, I, hc, hc', hm, hm', st, e => by
    unfold srch at e ⊢
    have key : ∀ r : Option Nat × Sv, Iv n os cn r.1 r.2 → (r.1 = none → r.2.hd = r.2.tr.length) → s.tr.length ≤ r.2.tr.length → (match r.1 with
      | some k => if cn + 1 > L then Ans.unknown else if (lrnF r.2 k).1 = true then srch n L f none (cn + 1) (lrnF r.2 k).2 else .refuted (lrnF r.2 k).2.st
      | none => match freeV r.2.tr n with
        | some v => srch n L f none cn { r.2 with tr := r.2.tr ++ [(-(v : Int), none)] }
        | none => .model (asgF r.2.tr n)) = .refuted st → cn < st.length ∧ st.length ≤ L ∧ (st.length ≤ L' → (match r.1 with
      | some k => if cn + 1 > L' then Ans.unknown else if (lrnF r.2 k).1 = true then srch n L' f' none (cn + 1) (lrnF r.2 k).2 else .refuted (lrnF r.2 k).2.st
      | none => match freeV r.2.tr n with
        | some v => srch n L' f' none cn { r.2 with tr := r.2.tr ++ [(-(v : Int), none)] }
        | none => .model (asgF r.2.tr n)) = .refuted st) ∧ (L' < st.length → (match r.1 with
      | some k => if cn + 1 > L' then Ans.unknown else if (lrnF r.2 k).1 = true then srch n L' f' none (cn + 1) (lrnF r.2 k).2 else .refuted (lrnF r.2 k).2.st
      | none => match freeV r.2.tr n with
        | some v => srch n L' f' none cn { r.2 with tr := r.2.tr ++ [(-(v : Int), none)] }
        | none => .model (asgF r.2.tr n)) = .unknown) := by
      intro r J hh hl e
      obtain ⟨c, s'⟩ := r
      dsimp only at J hh hl e ⊢
      cases c with
      | some k =>
        dsimp only at e ⊢
        split at e
        · cases e
        · rename_i hgt
          by_cases hd : dsF s' k = []
          · have E := J.end_ hd
            rw [if_neg (by rw [E.1]; simp)] at e
            injection e with e
            have el := E.2.2
            have e1 := E.1
            rw [e] at el ⊢
            refine ⟨by omega, by omega, fun h => ?_, fun h => by rw [if_pos (by omega)]⟩
            rw [if_neg (by omega), if_neg (by rw [e1]; simp)]
          · have E := J.lrn hd
            rw [if_pos E.1] at e
            have m1 := mu_lrn (n := n) (L := L) (cn := cn) (s := s) (s' := (lrnF s' k).2) (by omega)
            by_cases hg' : cn + 1 > L'
            · have ih := srch_lim L L f f none (cn + 1) _ E.2 (by omega) (by omega) (by omega) (by omega) st e
              refine ⟨by omega, ih.2.1, fun h => by omega, fun h => by rw [if_pos hg']⟩
            · have m2 := mu_lrn (n := n) (L := L') (cn := cn) (s := s) (s' := (lrnF s' k).2) (by omega)
              rw [if_neg hg', if_pos E.1]
              have ih := srch_lim L L' f f' none (cn + 1) _ E.2 (by omega) (by omega) (by omega) (by omega) st e
              exact ⟨by omega, ih.2⟩
      | none =>
        dsimp only at e ⊢
        cases hv : freeV s'.tr n with
        | none => rw [hv] at e; cases e
        | some v =>
          rw [hv] at e
          dsimp only at e ⊢
          have E := J.dec (hh rfl) hv
          have h1 := E.ok.len
          have h2 : ∀ L, mu n L cn { s' with tr := s'.tr ++ [(-(v : Int), none)] } + 1 ≤ mu n L cn s := by
            intro L
            show (L + 1 - cn) * (n + 2) + (n + 1 - (s'.tr ++ [(-(v : Int), none)]).length) + 1 ≤ (L + 1 - cn) * (n + 2) + (n + 1 - s.tr.length)
            dsimp only at h1
            rw [List.length_append, List.length_singleton] at h1 ⊢
            omega
          have := h2 L
          have := h2 L'
          exact srch_lim L L' f f' none cn _ E hc hc' (by omega) (by omega) st e
    cases cf with
    | some k => exact key (some k, s) I (fun e => by cases e) (Nat.le_refl _) e
    | none => exact key (propF (n + 1) s) I.prop.1 I.prop.2.1 I.prop.2.2 e
end
/-! ### the solver, plain: its begin, and what a refutation says -/
section
variable {n : Nat} {os : List (List Int)}
theorem Iv.begin (h : ∀ c ∈ os, ∀ t ∈ c, 1 ≤ t.natAbs ∧ t.natAbs ≤ n) : Iv n os 0 (beginF (sv0 os)).1 (beginF (sv0 os)).2 := by
  have S : SvOk n (sv0 os) := by
    refine ⟨fun c hc => ?_, fun t ht => by simp [sv0, tms] at ht, List.nodup_nil, Nat.le_refl _, fun i t k e => by simp [sv0] at e⟩
    obtain ⟨d, hd, rfl⟩ := List.mem_map.mp hc
    exact ⟨dst_nd d [] List.nodup_nil, fun t ht => h d hd t (((dst_mem d [] t).mp ht).resolve_right (by simp))⟩
  have hks : ∀ k ∈ (List.range (sv0 os).cls.length).filter fun k => decide (((sv0 os).cls.getD k []).length ≤ 1), k < (sv0 os).cls.length := fun k hk => List.mem_range.mp (List.mem_filter.mp hk).1
  have L := SvOk.looks _ (sv0 os) S hks
  have im := looks_imp ((List.range (sv0 os).cls.length).filter fun k => decide (((sv0 os).cls.getD k []).length ≤ 1)) (sv0 os)
  have nf := SvOk.looks_nf _ (sv0 os) S hks
  show Iv n os 0 (LK.looks _ (sv0 os)).1 (LK.looks _ (sv0 os)).2
  generalize LK.looks ((List.range (sv0 os).cls.length).filter fun k => decide (((sv0 os).cls.getD k []).length ≤ 1)) (sv0 os) = r at *
  have hs : ∀ p ∈ r.2.tr, p.2.isSome = true := by
    obtain ⟨u, e, hu⟩ := im
    rw [e]
    exact fun p hp => hu p (by simpa [sv0] using hp)
  have st0 : r.2.st = [] := L.2.2.2.1
  have hd0 : r.2.hd = 0 := L.2.2.1
  refine ⟨L.1, by rw [L.2.1, st0]; simp [sv0], by rw [st0]; intro j p e; simp at e, by rw [st0]; rfl, by rw [st0]; simp, by rw [st0]; simp, Nat.zero_le _, .inr hs, fun e => ?_, fun k e => ?_⟩
  · rw [hd0]
    refine ⟨Nat.zero_le _, fun c hc => ?_, fun i t e => ?_⟩
    · have ne : ∃ u, u ∈ c := by
        rw [L.2.1] at hc
        obtain ⟨k, hk, rfl⟩ := List.getElem_of_mem hc
        have gk : (sv0 os).cls.getD k [] = (sv0 os).cls[k] := by rw [List.getD_eq_getElem?_getD, List.getElem?_eq_getElem hk]; rfl
        by_cases hl : (sv0 os).cls[k].length ≤ 1
        · obtain ⟨u, hu, _⟩ := nf e k (List.mem_filter.mpr ⟨List.mem_range.mpr hk, by rw [gk]; exact decide_eq_true hl⟩)
          rw [gk] at hu
          exact ⟨u, hu⟩
        · match (sv0 os).cls[k], hl with
          | u :: _, _ => exact ⟨u, by simp⟩
          | [], hl => simp at hl
      obtain ⟨u, hu⟩ := ne
      exact ⟨u, hu, by simp [tms]⟩
    · have := hs _ (List.mem_of_getElem? e)
      simp at this
  · have b := L.2.2.2.2.2 k e
    rw [L.2.1]
    exact ⟨hks k b.1, b.2⟩
theorem tv_not {vs : List Int} {t : Int} (hb : ∀ x ∈ vs, x = 0 ∨ x = 1) (h : 1 ≤ t.natAbs ∧ t.natAbs ≤ vs.length) (hf : tv vs t = false) : tv vs (-t) = true := by
  have at_ : ∀ i, i < vs.length → vs.getD i 0 = 0 ∨ vs.getD i 0 = 1 := fun i hi => by
    refine hb _ ?_
    rw [List.getD_eq_getElem?_getD, List.getElem?_eq_getElem hi]
    exact List.getElem_mem hi
  rcases Int.lt_or_le 0 t with z | z
  · rw [tv_pos z] at hf
    rw [tv_neg (by omega), show - -t - 1 = t - 1 by omega]
    have := of_decide_eq_false hf
    have := at_ (t - 1).toNat (by omega)
    exact decide_eq_true (by omega)
  · rw [tv_neg (by omega)] at hf
    rw [tv_pos (by omega)]
    have := of_decide_eq_false hf
    have := at_ (-t - 1).toNat (by omega)
    exact decide_eq_true (by omega)
/-- no assignment makes refuted clauses true -/
theorem Steps.sound {st : List (List Int × List Nat)} {vs : List Int} (S : Steps os st) (hr : ∀ p ∈ st, ∀ t ∈ p.1, 1 ≤ t.natAbs ∧ t.natAbs ≤ n) (hl : vs.length = n) (hb : ∀ x ∈ vs, x = 0 ∨ x = 1) (ho : ∀ c ∈ os, ∀ t ∈ c, 1 ≤ t.natAbs ∧ t.natAbs ≤ n) (ht : ∀ c ∈ os, tru vs c = true) : ∀ j, ∀ c ∈ os ++ (st.take j).map (·.1), tru vs c = true
  | 0, c, hc => by
    rw [List.take_zero] at hc
    exact ht c (by simpa using hc)
  | j + 1, c, hc => by
    have ih := Steps.sound S hr hl hb ho ht j
    cases e : st[j]? with
    | none =>
      have : st.take (j + 1) = st.take j := by rw [List.take_add_one, e]; simp
      rw [this] at hc
      exact ih c hc
    | some p =>
      have tk : st.take (j + 1) = st.take j ++ [p] := by rw [List.take_add_one, e]; rfl
      rw [tk, List.map_append, ← List.append_assoc] at hc
      rcases List.mem_append.mp hc with hc | hc
      · exact ih c hc
      · have : c = p.1 := by simpa using hc
        subst this
        cases hc : tru vs p.1 with
        | true => rfl
        | false =>
          exfalso
          have hm := List.mem_of_getElem? e
          refine chkS_ok ih (fun c hc t ht => ?_) _ _ (fun t ht => ?_) (S j p e)
          · have : 1 ≤ t.natAbs ∧ t.natAbs ≤ n := by
              rcases List.mem_append.mp hc with hc | hc
              · exact ho c hc t ht
              · obtain ⟨q, hq, rfl⟩ := List.mem_map.mp hc
                exact hr q (List.mem_of_mem_take hq) t ht
            exact ⟨by omega, by omega⟩
          · obtain ⟨u, hu, rfl⟩ := List.mem_map.mp ht
            refine tv_not hb (by rw [hl]; exact hr p hm u hu) ?_
            have := List.any_eq_false.mp hc u hu
            simpa using this
theorem Rf.none {st : List (List Int × List Nat)} {vs : List Int} (R : Rf n os st) (hl : vs.length = n) (hb : ∀ x ∈ vs, x = 0 ∨ x = 1) (ho : ∀ c ∈ os, ∀ t ∈ c, 1 ≤ t.natAbs ∧ t.natAbs ≤ n) : ¬ ∀ c ∈ os, tru vs c = true := by
  intro ht
  obtain ⟨pre, hs, e⟩ := R.last
  have := R.steps.sound (fun p hp => (R.rng p hp).1) hl hb ho ht st.length [] (by rw [List.take_length, e]; simp)
  cases this
end
/-! ### rows: lists or tuples -/
def rw_ : Bool → List PyData → PyData
  | true, ds => .tuple ds
  | false, ds => .list ds
abbrev rwi (p : Bool × List Int) : PyData := rw_ p.1 (p.2.map .int)
section
variable {v : Ev} {W : WX} {σ : St} {nx bk ct : St → Hp → Prop} {rt : VK} {w : Wd} {x : V} {b : Bool} {ds : List PyData} {Q : VK} {K : PySem.W.Frag}
theorem q_anyL {a b : Sq} {H : Hp} {R : It → Hp → Prop} (h : a.den v W σ H R) : Sq.den v (.any a b) W σ H R := .inl h
theorem q_anyR {a b : Sq} {H : Hp} {R : It → Hp → Prop} (h : b.den v W σ H R) : Sq.den v (.any a b) W σ H R := .inr h
theorem for_row {g : Tg} {bd : Sms} {i : Nat} (hσ : σ[i]? = some (some x)) (hx : Dv w x (rw_ b ds)) (Inv : Nat → St → Wd → Prop) (hk : ∀ i σ w', Inv i σ w' → ∃ T, Ex T w w') (h0 : Inv 0 σ w)
    (hs : ∀ i d y σ w', ds[i]? = some d → Dv w' y d → Inv i σ w' → g.den v W y σ w'.H fun σ2 H2 => bd.den v W ⟨KIs (Inv (i + 1)), rt, nx, KIs (Inv (i + 1))⟩ σ2 H2)
    (hd : ∀ σ w', Inv ds.length σ w' → nx σ w'.H) : Sm.den v (.for_ g (.any (.lst (.v i)) (.any (.tup (.v i)) (.txt (.v i)))) bd) W ⟨nx, rt, bk, ct⟩ σ w.H := by
  refine r_for ?_
  cases b with
  | true =>
    refine q_anyR (q_anyL ?_)
    refine q_tup (e_v ?_)
    rw [hσ]
    exact k_v (k_for_DT hx Inv hk h0 hs hd)
  | false =>
    refine q_anyL ?_
    refine q_lst (e_v ?_)
    rw [hσ]
    exact k_v (k_for_D hx Inv hk h0 hs hd)
theorem i_row {i : Int} {d : PyData} (hx : Dv w x (rw_ b ds)) (hi : 0 ≤ i) (hd : ds[i.toNat]? = some d) (h : ∀ y, Dv w y d → Q y w.H) : KI2 K x Q (.int i) w.H := by
  cases b with
  | true => exact i_T hx hi hd h
  | false => exact i_L hx hi hd h
theorem i_rowL {d : PyData} (hx : Dv w x (rw_ b (ds ++ [d]))) (hl : ds.length < 2 ^ 60) (h : ∀ y, Dv w y d → Q y w.H) : KI2 K x Q (.int (-1)) w.H := by
  have key : ∀ xs : List V, Dvs w xs (ds ++ [d]) → ∃ y, xs[xs.length - 1]? = some y ∧ Dv w y d ∧ 1 ≤ xs.length := fun xs r => by
    have hl := r.length
    rw [List.length_append, List.length_singleton] at hl
    obtain ⟨y, h1, h2⟩ := r.get (i := ds.length) (d := d) (by rw [List.getElem?_append_right (Nat.le_refl _), Nat.sub_self]; rfl)
    exact ⟨y, by rw [hl]; exact h1, h2, by omega⟩
  cases b with
  | true =>
    obtain ⟨a, xs, rfl, s, e, r⟩ := Dv.of_tup hx
    obtain ⟨y, h1, h2, h3⟩ := key xs r
    exact RIxR.tup (sqT e) rfl (atI_neg (by decide) (by omega) (by rw [show (-1 + (xs.length : Int)).toNat = xs.length - 1 by omega]; exact h1)) (h y h2)
  | false =>
    obtain ⟨a, xs, rfl, s, e, r⟩ := Dv.of_lst hx
    obtain ⟨y, h1, h2, h3⟩ := key xs r
    exact RIxR.lst (sqL e) rfl (atI_neg (by decide) (by omega) (by rw [show (-1 + (xs.length : Int)).toNat = xs.length - 1 by omega]; exact h1)) (h y h2)
theorem f_lenRow (hx : Dv w x (rw_ b ds)) (h : Q (.int ds.length) w.H) : KBf K .len Q [x] w.H := by
  cases b with
  | true => exact f_lenT hx h
  | false => exact f_lenL hx h
theorem c_nin_row {t : Int} {c : List Int} {P : Bool → Hp → Prop} (hx : Dv w x (rwi (b, c))) (h : P (!decide (t ∈ c)) w.H) : KC2 K .NotIn (.int t) P x w.H := by
  cases b with
  | true =>
    obtain ⟨a, xs, rfl, s, e, r⟩ := Dv.of_tup hx
    obtain rfl := r.of_ints
    refine RIn.flat (xs := c.map V.int) (.inr (sqT e)) rfl (flat_ints _) ?_
    rw [inV_ints]; exact h
  | false =>
    obtain ⟨a, xs, rfl, s, e, r⟩ := Dv.of_lst hx
    obtain rfl := r.of_ints
    refine RIn.flat (xs := c.map V.int) (.inl (sqL e)) rfl (flat_ints _) ?_
    rw [inV_ints]; exact h
end
/-! ### the forms of steps -/
def rowOf : PyData → Option (Bool × List PyData)
  | .list ds => some (false, ds)
  | .tuple ds => some (true, ds)
  | _ => none
theorem rowOf_some {d : PyData} {p : Bool × List PyData} (h : rowOf d = some p) : d = rw_ p.1 p.2 := by
  unfold rowOf at h
  split at h
  · cases h; rfl
  · cases h; rfl
  · cases h
def isIntD : PyData → Bool
  | .int _ => true
  | _ => false
def toI : PyData → Int
  | .int i => i
  | _ => 0
def intsOf (d : PyData) : Option (Bool × List Int) :=
  match rowOf d with
  | some (b, ds) => if ds.all isIntD = true then some (b, ds.map toI) else none
  | none => none
theorem intsOf_some {d : PyData} {p : Bool × List Int} (h : intsOf d = some p) : d = rwi p := by
  unfold intsOf at h
  split at h
  · rename_i b ds e
    split at h
    · rename_i ha
      cases h
      rw [rowOf_some e]
      show rw_ b ds = rw_ b ((ds.map toI).map .int)
      congr 1
      rw [List.map_map]
      conv => lhs; rw [← List.map_id ds]
      refine List.map_congr_left fun z hz => ?_
      have := List.all_eq_true.mp ha z hz
      cases z <;> first | rfl | cases this
    · cases h
  · cases h
theorem intsOf_rwi (p : Bool × List Int) : intsOf (rwi p) = some p := by
  obtain ⟨b, c⟩ := p
  have h1 : (c.map PyData.int).all isIntD = true := by
    rw [List.all_eq_true]
    intro d hd
    obtain ⟨i, _, rfl⟩ := List.mem_map.mp hd
    rfl
  have h2 : (c.map PyData.int).map toI = c := by rw [List.map_map]; exact List.map_id c
  cases b <;> (unfold intsOf rwi rw_ rowOf; simp only [h1, if_pos, h2])
def stepOf (d : PyData) : Option ((Bool × List Int) × (Bool × List Int)) :=
  match rowOf d with
  | some (_, [a, b]) => match intsOf a, intsOf b with
    | some c, some h => if 0 ∈ c.2 then none else some (c, h)
    | _, _ => none
  | _ => none
theorem stepOf_some {d : PyData} {c h : Bool × List Int} (e : stepOf d = some (c, h)) : (∃ b, d = rw_ b [rwi c, rwi h]) ∧ 0 ∉ c.2 := by
  unfold stepOf at e
  split at e
  · rename_i b a1 a2 er
    split at e
    · rename_i c' h' e1 e2
      split at e
      · cases e
      · rename_i h0
        cases e
        rw [intsOf_some e1, intsOf_some e2] at er
        exact ⟨⟨b, rowOf_some er⟩, h0⟩
    · cases e
  · cases e
theorem stepOf_rw {b : Bool} {c h : Bool × List Int} (h0 : 0 ∉ c.2) : stepOf (rw_ b [rwi c, rwi h]) = some (c, h) := by
  have : rowOf (rw_ b [rwi c, rwi h]) = some (b, [rwi c, rwi h]) := by cases b <;> rfl
  unfold stepOf
  rw [this]
  dsimp only
  rw [intsOf_rwi, intsOf_rwi]
  exact if_neg h0
/-- the check of a refutation -/
def chkR (cs : List (List Int)) : List PyData → Bool
  | [] => true
  | d :: r => match stepOf d with
    | some (c, h) => chkS cs (c.2.map (-·)) h.2 && chkR (cs ++ [c.2]) r
    | none => false
def lastE (d : PyData) : Bool := match stepOf d with
  | some (c, _) => decide (c.2.length = 0)
  | none => false
def chkRef (cs : List (List Int)) (d : PyData) : Bool :=
  match rowOf d with
  | some (_, ds) => !ds.isEmpty && chkR cs ds && lastE (ds.getLastD .none)
  | none => false
def kindN : PyData → String
  | .none => "NoneType"
  | .bool _ => "bool"
  | .int _ => "int"
  | .str _ => "str"
  | .list _ => "list"
  | .tuple _ => "tuple"
  | _ => "dict"
theorem ty_of {w : Wd} {K : PySem.W.Frag} {x : V} {d : PyData} {Q : VK} (hx : Dv w x d) (b : String) (r : Bool) (e : kitB (kindN d) b = some r) (h : Q (.bl r) w.H) : KBf K .isi Q [x, .ty b] w.H := by
  cases hx with
  | non => exact f_isi (.ty _) (.base (.non)) (kit_ty e) h
  | bl b => exact f_isiB e h
  | int i => exact f_isiI e h
  | str s => exact f_isiS e h
  | lst s a r => exact f_isiL (.lst s a r) e h
  | tup s a r => exact f_isiT (.tup s a r) e h
  | dic s a r => exact f_isiD (.dic s a r) e h
section
variable {v : Ev} {n N : Nat} {w : Wd} {x : V} {Q : VK} {E : XK}
theorem isint_spec {d : PyData} (hx : Dv w x d) (q : Q (.bl (isIntD d)) w.H) : spOf v D (N + 1) i_is_integer [x] w.H Q E := by
  refine in_is_integer ?_
  unfold b_is_integer
  walk_at "g5"
  cases hx with
  | non =>
    refine ty_of .non "int" false rfl ?_
    walk_at "g5"
    exact q
  | bl b =>
    refine ty_of (.bl b) "int" true rfl ?_
    walk_at "g5"
    refine ty_of (.bl b) "bool" true rfl ?_
    walk_at "g5"
    exact q
  | int i =>
    refine ty_of (.int i) "int" true rfl ?_
    walk_at "g5"
    refine ty_of (.int i) "bool" false rfl ?_
    walk_at "g5"
    exact q
  | str s =>
    refine ty_of (.str s) "int" false rfl ?_
    walk_at "g5"
    exact q
  | lst s a r =>
    refine ty_of (.lst s a r) "int" false rfl ?_
    walk_at "g5"
    exact q
  | tup s a r =>
    refine ty_of (.tup s a r) "int" false rfl ?_
    walk_at "g5"
    exact q
  | dic s a r =>
    refine ty_of (.dic s a r) "int" false rfl ?_
    walk_at "g5"
    exact q
theorem isrow_spec {d : PyData} (hx : Dv w x d) (q : Q (.bl (rowOf d).isSome) w.H) : spOf v D (N + 1) i_is_row [x] w.H Q E := by
  refine in_is_row ?_
  unfold b_is_row
  walk_at "g5"
  cases hx with
  | non =>
    refine ty_of .non "list" false rfl ?_
    walk_at "g5"
    refine ty_of .non "tuple" false rfl ?_
    exact q
  | bl b =>
    refine ty_of (.bl b) "list" false rfl ?_
    walk_at "g5"
    refine ty_of (.bl b) "tuple" false rfl ?_
    exact q
  | int i =>
    refine ty_of (.int i) "list" false rfl ?_
    walk_at "g5"
    refine ty_of (.int i) "tuple" false rfl ?_
    exact q
  | str s =>
    refine ty_of (.str s) "list" false rfl ?_
    walk_at "g5"
    refine ty_of (.str s) "tuple" false rfl ?_
    exact q
  | lst s a r =>
    refine ty_of (.lst s a r) "list" true rfl ?_
    walk_at "g5"
    exact q
  | tup s a r =>
    refine ty_of (.tup s a r) "list" false rfl ?_
    walk_at "g5"
    refine ty_of (.tup s a r) "tuple" true rfl ?_
    exact q
  | dic s a r =>
    refine ty_of (.dic s a r) "list" false rfl ?_
    walk_at "g5"
    refine ty_of (.dic s a r) "tuple" false rfl ?_
    exact q
theorem areints_spec {d : PyData} (hx : Dv w x d) (q : Q (.bl (intsOf d).isSome) w.H) : spOf v D (N + 2) i_are_integers [x] w.H Q E := by
  refine in_are_integers ?_
  unfold b_are_integers
  walk_at "g5"
  refine isrow_spec hx ?_
  walk_at "g5"
  cases hr : rowOf d with
  | none =>
    have : intsOf d = none := by unfold intsOf; rw [hr]
    rw [this] at q
    simp only [Option.isSome_none]
    walk_at "g5"
    exact q
  | some p =>
    obtain ⟨b, ds⟩ := p
    have e : d = rw_ b ds := rowOf_some hr
    subst e
    have hi : intsOf (rw_ b ds) = if ds.all isIntD = true then some (b, ds.map toI) else none := by unfold intsOf; rw [hr]
    rw [hi] at q
    simp only [Option.isSome_some]
    walk_at "g5"
    refine for_row rfl hx (fun i σ w' => w' = w ∧ (∃ a1, σ = [some x, a1]) ∧ (ds.take i).all isIntD = true) (fun i σ w' h => ⟨[], by rw [h.1]; exact Ex.refl w⟩) ⟨rfl, ⟨_, rfl⟩, by simp⟩ ?_ ?_
    · rintro i d y σ w' hd dy ⟨rfl, ⟨a1, rfl⟩, ha⟩
      have tk : ds.take (i + 1) = ds.take i ++ [d] := by rw [List.take_add_one, hd]; rfl
      walk_at "g5"
      refine isint_spec dy ?_
      walk_at "g5"
      cases hz : isIntD d with
      | true =>
        walk_at "g5"
        refine k_is ⟨rfl, ⟨_, rfl⟩, ?_⟩
        rw [tk, List.all_append, ha]
        simp [hz]
      | false =>
        walk_at "g5"
        have : ¬ ds.all isIntD = true := fun h => by
          have := List.all_eq_true.mp h d (List.mem_of_getElem? hd)
          rw [hz] at this; cases this
        rw [if_neg this] at q
        exact q
    · rintro σ w' ⟨rfl, ⟨a1, rfl⟩, ha⟩
      rw [List.take_length] at ha
      rw [if_pos ha] at q
      walk_at "g5"
      exact q
theorem isstep_spec {d : PyData} (hx : Dv w x d) (q : Q (.bl (stepOf d).isSome) w.H) : spOf v D (N + 3) i_is_step [x] w.H Q E := by
  refine in_is_step ?_
  unfold b_is_step
  walk_at "g5"
  refine isrow_spec hx ?_
  walk_at "g5"
  cases hr : rowOf d with
  | none =>
    have : stepOf d = none := by unfold stepOf; rw [hr]
    rw [this] at q
    simp only [Option.isSome_none]
    walk_at "g5"
    exact q
  | some p =>
    obtain ⟨b, ds⟩ := p
    have e : d = rw_ b ds := rowOf_some hr
    subst e
    simp only [Option.isSome_some]
    walk_at "g5"
    refine f_lenRow hx ?_
    walk_at "g5"
    refine kif_n (fun h => ?_) fun h => ?_
    · have : stepOf (rw_ b ds) = none := by
        unfold stepOf
        rw [hr]
        match ds, h with
        | [], _ => rfl
        | [_], _ => rfl
        | [_, _], h => exact absurd rfl h
        | _ :: _ :: _ :: _, _ => rfl
      rw [this] at q
      walk_at "g5"
      exact q
    · obtain ⟨a1, a2, rfl⟩ : ∃ a1 a2, ds = [a1, a2] := by
        match ds, h with
        | [a1, a2], _ => exact ⟨a1, a2, rfl⟩
        | [], h => simp at h
        | [_], h => simp at h
        | _ :: _ :: _ :: _, h => simp at h; omega
      have hs : stepOf (rw_ b [a1, a2]) = match intsOf a1, intsOf a2 with
          | some c, some h => if 0 ∈ c.2 then none else some (c, h)
          | _, _ => none := by
        unfold stepOf
        rw [hr]
      rw [hs] at q
      walk_at "g5"
      refine i_row hx (by decide) (d := a1) rfl fun y1 d1 => ?_
      walk_at "g5"
      refine areints_spec d1 ?_
      walk_at "g5"
      cases h1 : intsOf a1 with
      | none =>
        rw [h1] at q
        simp only [Option.isSome_none]
        walk_at "g5"
        exact q
      | some c =>
        simp only [Option.isSome_some]
        walk_at "g5"
        refine i_row hx (by decide) (d := a2) rfl fun y2 d2 => ?_
        walk_at "g5"
        refine areints_spec d2 ?_
        walk_at "g5"
        rw [h1] at q
        cases h2 : intsOf a2 with
        | none =>
          rw [h2] at q
          simp only [Option.isSome_none]
          walk_at "g5"
          exact q
        | some h =>
          rw [h2] at q
          simp only [Option.isSome_some]
          walk_at "g5"
          refine i_row hx (by decide) (d := a1) rfl fun y3 d3 => ?_
          rw [intsOf_some h1] at d3
          obtain ⟨cb, cl⟩ := c
          refine c_nin_row d3 ?_
          walk_at "g5"
          dsimp only at q
          by_cases h0 : (0 : Int) ∈ cl
          · rw [if_pos h0] at q
            rw [decide_eq_true h0]; exact q
          · rw [if_neg h0] at q
            rw [decide_eq_false h0]; exact q
end
section
variable {v : Ev} {n N : Nat} {w : Wd} {Q : VK} {E : XK}
theorem opnr_spec {x : V} {d : Addr} {p : Bool × List Int} {ks : List Int} (dx : Dv w x (rwi p)) (o : w.H d = some (.dK (kvT ks))) (hl : p.2.length < 100000)
    (q : ∀ w' r, Ex [] w w' → Op w' r (.lst ((opn ks p.2).map V.int)) → w.H r = none → Q (.ref r) w'.H) : spOf v D (n + 1) i_open_terms [x, .ref d] w.H Q E := by
  obtain ⟨b, c⟩ := p
  dsimp only at hl q
  refine in_open_terms ?_
  unfold b_open_terms
  walk_at "g5"
  refine k_lstO (by simp) fun w1 r e1 hr o1 => ?_
  have hrd : d ≠ r := fun z => by rw [z, hr] at o; cases o
  walk_at "g5"
  refine for_row rfl (dx.ex e1) (fun i σ w' => Ex [] w w' ∧ Ex [r] w1 w' ∧ Op w' r (.lst ((opn ks (c.take i)).map V.int)) ∧ w'.H d = some (.dK (kvT ks)) ∧ ∃ a3, σ = [some x, some (.ref d), some (.ref r), a3]) (fun i σ w' h => ⟨[r], h.2.1⟩)
    ⟨e1, (Ex.refl w1).more (by simp) (by intro b hb; simp at hb; subst hb; exact o1.n), o1, e1.kp _ _ o (by simp), _, rfl⟩ ?_ ?_
  · rintro i dd y σ w' hd dy ⟨E', E1, o', od, a3, rfl⟩
    rw [List.getElem?_map] at hd
    obtain ⟨t, ht, rfl⟩ := Option.map_eq_some_iff.mp hd
    obtain rfl := dy.of_int
    have hi : i < c.length := by
      rcases Nat.lt_or_ge i c.length with h | h
      · exact h
      · rw [List.getElem?_eq_none h] at ht; cases ht
    have nxt : opn ks (c.take (i + 1)) = if -t ∉ ks ∧ t ∉ opn ks (c.take i) then opn ks (c.take i) ++ [t] else opn ks (c.take i) := by
      rw [List.take_add_one, ht]
      exact opn_snoc ks (c.take i) t
    have hlen := opn_len ks c i (by omega)
    walk_at "g5"
    refine c_nin_dK (k := .inl (-t)) od rfl ?_
    rw [kvT_val]
    refine k_ta (fun h1 => ?_) fun h1 => ?_
    · have h1 : -t ∉ ks := fun z => by rw [if_pos z] at h1; simp at h1
      walk_at "g5"
      refine c_nin_l o'.h rfl (flat_ints _) ?_
      rw [inV_ints]
      refine kif_n (fun h2 => ?_) fun h2 => ?_
      · walk_at "g5"
        refine k_m1 o'.h rfl ?_
        walk_at "g5"
        refine m_app o' (by rw [List.length_map, sizeLine_eq]; omega) fun w2 e2 o2 => ?_
        walk_at "g5"
        refine k_is ⟨E'.tf e2 hr, E1.tt e2, ?_, e2.kp _ _ od (by simpa using hrd), _, rfl⟩
        rw [nxt, if_pos ⟨h1, h2⟩]
        simpa using o2
      · walk_at "g5"
        refine k_is ⟨E', E1, ?_, od, _, rfl⟩
        rw [nxt, if_neg fun z => z.2 h2]
        exact o'
    · have h1 : -t ∈ ks := by
        by_cases z : -t ∈ ks
        · exact z
        · rw [if_neg z] at h1; simp at h1
      walk_at "g5"
      refine k_is ⟨E', E1, ?_, od, _, rfl⟩
      rw [nxt, if_neg fun z => z.1 h1]
      exact o'
  · rintro σ w' ⟨E', E1, o', od, a3, rfl⟩
    walk_at "g5"
    rw [List.length_map, List.take_length] at o'
    exact q w' r E' o' hr
/-- known clauses: an open list of rows -/
structure Kw (w : Wd) (p : Addr) (ps : List (Bool × List Int)) : Prop where
  o : ∃ vs, Op w p (.lst vs) ∧ Dvs w vs (ps.map rwi)
theorem Kw.ex {T : List Addr} {w' : Wd} {p : Addr} {ps : List (Bool × List Int)} (h : Kw w p ps) (e : Ex T w w') (hn : p ∉ T) : Kw w' p ps := by
  obtain ⟨vs, o, d⟩ := h.o
  exact ⟨vs, o.ex e hn, d.ex e⟩
theorem stepr_spec {y z : V} {p : Addr} {ps : List (Bool × List Int)} {c hs : Bool × List Int} (kw : Kw w p ps) (dy : Dv w y (rwi c)) (dz : Dv w z (rwi hs)) (hps : ∀ c ∈ ps, c.2.length < 100000) (hc : c.2.length < 100000) (hh : hs.2.length < 100000)
    (q : ∀ w', Ex [] w w' → Q (.bl (chkS (ps.map (·.2)) (c.2.map (-·)) hs.2)) w'.H) : spOf v D (n + 2) i_check_step [.ref p, y, z] w.H Q E := by
  obtain ⟨cb, c⟩ := c
  obtain ⟨hb, hs⟩ := hs
  dsimp only at hc hh q
  generalize hcs : ps.map (·.2) = cs at q
  have csl : cs.length = ps.length := by rw [← hcs, List.length_map]
  have csg : ∀ j, cs.getD j [] = (ps.getD j (false, [])).2 := fun j => by
    rw [← hcs, List.getD_eq_getElem?_getD, List.getD_eq_getElem?_getD, List.getElem?_map]
    cases ps[j]? <;> rfl
  refine in_check_step ?_
  unfold b_check_step
  walk_at "g5"
  refine new_op fun w1 d e1 hd o1 => ?_
  have kw1 := kw.ex e1 (by simp)
  have pd : p ≠ d := by
    obtain ⟨vs, o, _⟩ := kw.o
    exact o.ne hd
  walk_at "g5"
  refine for_row rfl (dy.ex e1) (fun i σ w' => Ex [] w w' ∧ Ex [d] w1 w' ∧ (∃ ks, Op w' d (.dK (kvT ks)) ∧ (∀ t, t ∈ ks ↔ t ∈ (c.take i).map (-·)) ∧ ks.length ≤ i) ∧ ∃ a4, σ = [some (.ref p), some y, some z, some (.ref d), a4, none, none]) (fun i σ w' h => ⟨[d], h.2.1⟩)
    ⟨e1, (Ex.refl w1).more (by simp) (by intro b hb; simp at hb; subst hb; exact o1.n), ⟨[], o1, by simp, by simp⟩, _, rfl⟩ ?_ ?_
  · rintro i dd u σ w' hdd du ⟨E', E1, ⟨ks, o', hks, hkl⟩, a4, rfl⟩
    rw [List.getElem?_map] at hdd
    obtain ⟨t, ht, rfl⟩ := Option.map_eq_some_iff.mp hdd
    obtain rfl := du.of_int
    have hi : i < c.length := by
      rcases Nat.lt_or_ge i c.length with h | h
      · exact h
      · rw [List.getElem?_eq_none h] at ht; cases ht
    obtain ⟨ks', e', m', l'⟩ := kvT_put ks (-t)
    walk_at "g5"
    refine k_set_dK (k := .inl (-t)) o' rfl (by unfold kvT; rw [List.length_map, sizeLine_eq]; omega) fun w2 e2 o2 => ?_
    rw [e'] at o2
    walk_at "g5"
    refine k_is ⟨E'.tf e2 hd, E1.tt e2, ⟨ks', o2, fun u => ?_, by omega⟩, _, rfl⟩
    rw [m' u, hks u, List.take_add_one, ht]
    simp
  · rintro σ w2 ⟨E2, E1, ⟨ks, o2, hks, hkl⟩, a4, rfl⟩
    rw [List.length_map, List.take_length] at hks
    rw [List.length_map] at hkl
    walk_at "g5"
    have dz2 := dz.ex E2
    refine for_row rfl dz2 (fun i σ w' => Ex [] w w' ∧ Ex [d] w2 w' ∧ (∃ ks, Op w' d (.dK (kvT ks)) ∧ ks.length ≤ c.length + i ∧ chkS cs (c.map (-·)) hs = chkS cs ks (hs.drop i)) ∧ ∃ a5 a6, σ = [some (.ref p), some y, some z, some (.ref d), a4, a5, a6]) (fun i σ w' h => ⟨[d], h.2.1⟩)
      ⟨E2, (Ex.refl w2).more (by simp) (by intro b hb; simp at hb; subst hb; exact o2.n), ⟨ks, o2, by omega, (chkS_congr hs hks).symm⟩, _, _, rfl⟩ ?_ ?_
    · rintro i dd u σ w' hdd du ⟨E', E1', ⟨ks, o', hkl, hchk⟩, a5, a6, rfl⟩
      rw [List.getElem?_map] at hdd
      obtain ⟨h, hh', rfl⟩ := Option.map_eq_some_iff.mp hdd
      obtain rfl := du.of_int
      have hi : i < hs.length := by
        rcases Nat.lt_or_ge i hs.length with z | z
        · exact z
        · rw [List.getElem?_eq_none z] at hh'; cases hh'
      have hdrop : hs.drop i = h :: hs.drop (i + 1) := by
        rw [List.drop_eq_getElem_cons hi]
        rw [List.getElem?_eq_getElem hi] at hh'
        rw [Option.some.inj hh']
      rw [hdrop, chkS_cons] at hchk
      obtain ⟨vs, ok, dk⟩ := (kw.ex E' (by simp)).o
      have vsl : vs.length = ps.length := by rw [dk.length, List.length_map]
      walk_at "g5"
      have ret : ∀ b, chkS cs (c.map (-·)) hs = b → ∀ w', Ex [] w w' → Q (.bl b) w'.H := fun b hb w' e' => by rw [← hb]; exact q w' e'
      refine k_to (fun h1 => ?_) fun h1 => ?_
      · have h1 := of_decide_eq_true h1
        rw [if_pos (.inl h1)] at hchk
        walk_at "g5"
        exact ret _ hchk w' E'
      have h1 := of_decide_eq_false h1
      walk_at "g5"
      refine f_lenO ok.h ?_
      walk_at "g5"
      rw [vsl, ← csl]
      refine kif_d (fun h2 => ?_) fun h2 => ?_
      · rw [if_pos (.inr h2)] at hchk
        walk_at "g5"
        exact ret _ hchk w' E'
      rw [if_neg (by omega)] at hchk
      walk_at "g5"
      refine i_OM (z := (false, ([] : List Int))) (g := rwi) ok.h dk (by omega) (by omega) fun y1 dy1 => ?_
      walk_at "g5"
      have hm : ps.getD h.toNat (false, []) ∈ ps := by
        rw [List.getD_eq_getElem?_getD, List.getElem?_eq_getElem (by omega)]
        exact List.getElem_mem _
      refine opnr_spec dy1 o'.h (hps _ hm) fun w3 r e3 o3 hr3 => ?_
      rw [← csg] at o3
      have od3 := o'.ex e3 (by simp)
      have E3 := E'.t0 e3
      generalize opn ks (cs.getD h.toNat []) = os at o3 hchk
      walk_at "g5"
      refine f_lenO o3.h ?_
      walk_at "g5"
      rw [List.length_map]
      refine kif_d (fun h3 => ?_) fun h3 => ?_
      · rw [if_pos (by omega)] at hchk
        walk_at "g5"
        exact ret _ hchk w3 E3
      rw [if_neg (by omega)] at hchk
      walk_at "g5"
      refine f_lenO o3.h ?_
      walk_at "g5"
      rw [List.length_map]
      refine kif_d (fun h4 => ?_) fun h4 => ?_
      · rw [if_pos (by omega)] at hchk
        walk_at "g5"
        exact ret _ hchk w3 E3
      rw [if_neg (by omega)] at hchk
      walk_at "g5"
      refine i_OG o3.h (by decide) (by omega) ?_
      obtain ⟨ks', e', m', l'⟩ := kvT_put ks (os.getD (0 : Int).toNat 0)
      refine k_set_dK (k := .inl (os.getD (0 : Int).toNat 0)) od3 rfl (by unfold kvT; rw [List.length_map, sizeLine_eq]; omega) fun w4 e4 o4 => ?_
      rw [e'] at o4
      walk_at "g5"
      refine k_is ⟨E3.tf e4 hd, (E1'.t0 e3).tt e4, ⟨ks', o4, by omega, ?_⟩, _, _, rfl⟩
      rw [hchk]
      exact chkS_congr _ fun u => by rw [m' u]; simp
    · rintro σ w3 ⟨E3, E1', ⟨ks, o', hkl, hchk⟩, a5, a6, rfl⟩
      rw [List.length_map, List.drop_length] at hchk
      walk_at "g5"
      have : chkS cs (c.map (-·)) hs = false := hchk
      rw [← this]
      exact q w3 E3
/-- the rows in it are not too long -/
def Shrt (d : PyData) : Prop := ∀ c h, stepOf d = some (c, h) → c.2.length < 100000 ∧ h.2.length < 100000
theorem chkref_spec {x y : V} {cs : List (List Int)} {d : PyData} (dx : Dv w x (.list (cs.map ct))) (dy : Dv w y d) (hcs : ∀ c ∈ cs, c.length < 100000) (hcl : cs.length < 100000) (hd : ∀ b ds, rowOf d = some (b, ds) → ds.length < 100000 ∧ ∀ e ∈ ds, Shrt e)
    (q : ∀ w', Ex [] w w' → Q (.bl (chkRef cs d)) w'.H) : spOf v D (n + 4) i_check_refutation [x, y] w.H Q E := by
  refine in_check_refutation ?_
  unfold b_check_refutation
  walk_at "g5"
  refine isrow_spec dy ?_
  walk_at "g5"
  cases hr : rowOf d with
  | none =>
    have : chkRef cs d = false := by unfold chkRef; rw [hr]
    rw [this] at q
    simp only [Option.isSome_none]
    walk_at "g5"
    exact q w (Ex.refl w)
  | some p =>
    obtain ⟨b, ds⟩ := p
    have hds := hd b ds hr
    have e : d = rw_ b ds := rowOf_some hr
    subst e
    have hq : chkRef cs (rw_ b ds) = (!ds.isEmpty && chkR cs ds && lastE (ds.getLastD .none)) := by unfold chkRef; rw [hr]
    rw [hq] at q
    simp only [Option.isSome_some]
    walk_at "g5"
    refine f_lenRow dy ?_
    walk_at "g5"
    refine kif_d (fun h => ?_) fun h => ?_
    · have : ds = [] := List.length_eq_zero_iff.mp (by omega)
      subst this
      walk_at "g5"
      exact q w (Ex.refl w)
    · have hne : ds ≠ [] := fun z => h (by rw [z]; rfl)
      have he : ds.isEmpty = false := by cases ds with | nil => exact absurd rfl hne | cons _ _ => rfl
      rw [he] at q
      simp only [Bool.not_false, Bool.true_and] at q
      walk_at "g5"
      obtain ⟨a0, vs, rfl, s0, h0', r0⟩ := dx.of_lst
      refine f_lstO h0' (new_op fun w1 p e1 hp o1 => ?_)
      have dvs := r0.ex e1
      have kw1 : Kw w1 p (cs.map fun c => (true, c)) := ⟨vs, o1, by rw [List.map_map]; exact dvs⟩
      have nos : ∀ b ∈ [p], ¬ w1.S b := by simpa using o1.n
      walk_at "g5"
      refine for_row rfl (dy.ex e1) (fun i σ w' => ∃ a3 ps, σ = [some (.ref a0), some y, some (.ref p), a3] ∧ Ex [] w w' ∧ Ex [p] w1 w' ∧ Kw w' p ps ∧ ps.length = cs.length + i ∧ (∀ c ∈ ps, c.2.length < 100000) ∧ chkR cs ds = chkR (ps.map (·.2)) (ds.drop i) ∧ ∀ e ∈ ds.take i, (stepOf e).isSome = true) (fun i σ w' h => by obtain ⟨_, _, _, _, h, _⟩ := h; exact ⟨_, h⟩)
        ⟨none, _, rfl, e1, (Ex.refl w1).more (by simp) nos, kw1, by simp, ?_, ?_, by simp⟩ ?_ ?_
      · intro c hc
        obtain ⟨c', h', rfl⟩ := List.mem_map.mp hc
        exact hcs c' h'
      · rw [List.map_map]
        show _ = chkR (cs.map id) _
        rw [List.map_id, List.drop_zero]
      · rintro i d y1 σ w' hd' dy1 ⟨a3, ps, rfl, E', ET, kw, psl, hps, hchk, hall⟩
        have hdm := List.mem_of_getElem? hd'
        have sh := hds.2 d hdm
        have hi : i < ds.length := by
          rcases Nat.lt_or_ge i ds.length with z | z
          · exact z
          · rw [List.getElem?_eq_none z] at hd'; cases hd'
        rw [drop_at hd'] at hchk
        replace hchk : chkR cs ds = match stepOf d with
          | some (c, h) => chkS (ps.map (·.2)) (c.2.map (-·)) h.2 && chkR (ps.map (·.2) ++ [c.2]) (ds.drop (i + 1))
          | none => false := hchk
        walk_at "g5"
        refine isstep_spec dy1 ?_
        walk_at "g5"
        cases hst : stepOf d with
        | none =>
          rw [hst] at hchk
          dsimp only at hchk
          rw [hchk] at q
          simp only [Option.isSome_none]
          walk_at "g5"
          exact q w' E'
        | some chh =>
          obtain ⟨c, hh⟩ := chh
          rw [hst] at hchk
          dsimp only at hchk
          obtain ⟨⟨b', ed⟩, h0⟩ := stepOf_some hst
          have shc := sh c hh hst
          subst ed
          simp only [Option.isSome_some]
          walk_at "g5"
          refine i_row dy1 (by decide) (d := rwi c) rfl fun y2 d2 => ?_
          walk_at "g5"
          refine i_row dy1 (by decide) (d := rwi hh) rfl fun y3 d3 => ?_
          walk_at "g5"
          refine stepr_spec kw d2 d3 hps shc.1 shc.2 fun w2 e2 => ?_
          walk_at "g5"
          cases hck : chkS (ps.map (·.2)) (c.2.map (-·)) hh.2 with
          | false =>
            rw [hck, Bool.false_and] at hchk
            rw [hchk] at q
            walk_at "g5"
            exact q w2 (E'.t0 e2)
          | true =>
            rw [hck, Bool.true_and] at hchk
            obtain ⟨vs', ok, dk⟩ := (kw.ex e2 (by simp)).o
            have vl : vs'.length = ps.length := by rw [dk.length, List.length_map]
            walk_at "g5"
            refine k_m1 ok.h rfl ?_
            walk_at "g5"
            refine i_row (dy1.ex e2) (by decide) (d := rwi c) rfl fun y4 d4 => ?_
            walk_at "g5"
            refine m_app ok (by rw [vl, psl, sizeLine_eq]; omega) fun w3 e3 o3 => ?_
            walk_at "g5"
            refine k_is ⟨_, ps ++ [c], rfl, (E'.t0 e2).tf e3 hp, (ET.t0 e2).tt e3, ⟨_, o3, ?_⟩, by rw [List.length_append, psl]; simp; omega, fun c' hc' => ?_, by rw [hchk, List.map_append]; rfl, fun e he => ?_⟩
            · rw [List.map_append]
              exact (dk.ex e3).app (.cons (d4.ex e3) .nil)
            · rcases List.mem_append.mp hc' with hc' | hc'
              · exact hps c' hc'
              · rw [List.mem_singleton.mp hc']; exact shc.1
            · rw [List.take_add_one, hd'] at he
              rcases List.mem_append.mp he with he | he
              · exact hall e he
              · have : e = rw_ b' [rwi c, rwi hh] := by simpa using he
                rw [this, hst]; rfl
      · rintro σ w' ⟨a3, ps, rfl, E', ET, kw, psl, hps, hchk, hall⟩
        rw [List.drop_length] at hchk
        have hchk : chkR cs ds = true := hchk
        rw [hchk, Bool.true_and] at q
        rw [List.take_length] at hall
        obtain ⟨pre, l, rfl⟩ : ∃ pre l, ds = pre ++ [l] := ⟨_, _, (List.dropLast_concat_getLast hne).symm⟩
        have hl : (pre ++ [l]).getLastD .none = l := by simp
        rw [hl] at q
        have hlast := hall l (by simp)
        cases hst : stepOf l with
        | none => rw [hst] at hlast; cases hlast
        | some chh =>
          obtain ⟨c, hh⟩ := chh
          obtain ⟨⟨b', ed⟩, h0⟩ := stepOf_some hst
          have hle : lastE l = decide (c.2.length = 0) := by unfold lastE; rw [hst]
          rw [hle] at q
          subst ed
          walk_at "g5"
          refine i_rowL (dy.ex E') (by have := hds.1; simp at this; omega) fun y1 d1 => ?_
          walk_at "g5"
          refine i_row d1 (by decide) (d := rwi c) rfl fun y2 d2 => ?_
          walk_at "g5"
          refine f_lenRow d2 ?_
          walk_at "g5"
          rw [List.length_map]
          have : decide ((c.2.length : Int) = 0) = decide (c.2.length = 0) := by rw [decide_eq_decide]; omega
          rw [this]
          exact q w' E'
end
abbrev ids (xs : List Int) : PyData := .list (xs.map .int)
/-! ### the solver's object -/
structure SA where
  b : Wd
  g : Addr
  dx : Addr
  cl : Addr
  tr : Addr
  rs : Addr
  st : Addr
  us : Addr
abbrev sfs (A : SA) (n hd : Nat) : List (Str × V) := [("clauses", .ref A.cl), ("variables", .int n), ("trail", .ref A.tr), ("reasons", .ref A.rs), ("handled", .int hd), ("steps", .ref A.st), ("users", .ref A.us)]
def rsV : Option Nat → V
  | none => .non
  | some k => .int (k : Nat)
def kvR (tr : List (Int × Option Nat)) : List (Key × V) := tr.map fun p => (.inl p.1, rsV p.2)
def sd (p : List Int × List Nat) : PyData := .tuple [.tuple (p.1.map .int), .list (p.2.map fun k : Nat => .int (k : Int))]
/-- the users' dict -/
structure Us (w : Wd) (A : SA) (kvs : List (Key × V)) (f : Int → List Nat) : Prop where
  no : ∀ t : Int, valV kvs (.inl t) = none → f t = []
  yes : ∀ (t : Int) x, valV kvs (.inl t) = some x → ∃ a, x = .ref a ∧ a ∉ [A.cl, A.tr, A.st] ∧ Op w a (.lst ((f t).map fun k : Nat => V.int (k : Int))) ∧ A.b.H a = none
  two : ∀ (t u : Int) x, valV kvs (.inl t) = some x → valV kvs (.inl u) = some x → t = u
  ks : ∃ ts : List Int, kvs.map (·.1) = ts.map Sum.inl ∧ ts.Nodup ∧ ∀ t ∈ ts, 1 ≤ t.natAbs ∧ t.natAbs ≤ 1000
structure So (C : Addr) (w : Wd) (A : SA) (n : Nat) (s : Sv) (f : Int → List Nat := usr s.cls) : Prop where
  bx : Ex [] A.b w
  fr : ∀ a ∈ [A.g, A.cl, A.tr, A.rs, A.st, A.us], A.b.H a = none
  og : Op w A.g (.ins C A.dx (sfs A n s.hd))
  cl : ∃ vs, Op w A.cl (.lst vs) ∧ Dvs w vs (s.cls.map ids)
  tr : Op w A.tr (.lst ((tms s.tr).map V.int))
  rs : Op w A.rs (.dK (kvR s.tr))
  st : ∃ vs, Op w A.st (.lst vs) ∧ Dvs w vs (s.st.map sd)
  us : ∃ kvs, Op w A.us (.dK kvs) ∧ Us w A kvs f
  ne1 : A.cl ≠ A.tr
  ne2 : A.tr ≠ A.st
  ne3 : A.cl ≠ A.st
  ne4 : A.rs ≠ A.us
theorem op_ne {w : Wd} {a b : Addr} {o o' : HO} (x : Op w a o) (y : Op w b o') (h : o ≠ o') : a ≠ b := fun z => h (by rw [z] at x; have := x.h.symm.trans y.h; cases this; rfl)
theorem Us.ex {T : List Addr} {w w' : Wd} {A : SA} {kvs : List (Key × V)} {f : Int → List Nat} (U : Us w A kvs f) (e : Ex T w w') (h : ∀ (a : Addr) (xs : List V), Op w a (.lst xs) → a ∉ [A.cl, A.tr, A.st] → a ∉ T) : Us w' A kvs f :=
  ⟨U.no, fun t x hx => by
    obtain ⟨a, e1, ha, oa, hb⟩ := U.yes t x hx
    exact ⟨a, e1, ha, oa.ex e (h a _ oa ha), hb⟩, U.two, U.ks⟩
theorem So.ex {C : Addr} {w w' : Wd} {A : SA} {n : Nat} {s : Sv} {f : Int → List Nat} (S : So C w A n s f) (e : Ex [] w w') : So C w' A n s f := by
  obtain ⟨cv, c1, dc⟩ := S.cl
  obtain ⟨sv, s1, ds⟩ := S.st
  obtain ⟨kv, u1, U⟩ := S.us
  exact ⟨S.bx.t0 e, S.fr, S.og.ex e (by simp), ⟨cv, c1.ex e (by simp), dc.ex e⟩, S.tr.ex e (by simp), S.rs.ex e (by simp), ⟨sv, s1.ex e (by simp), ds.ex e⟩, ⟨kv, u1.ex e (by simp), U.ex e fun _ _ _ _ => by simp⟩, S.ne1, S.ne2, S.ne3, S.ne4⟩
theorem kvR_val (tr : List (Int × Option Nat)) (t : Int) : valV (kvR tr) (.inl t) = (tr.lookup t).map rsV := by
  induction tr with
  | nil => rfl
  | cons p r ih =>
    obtain ⟨x, z⟩ := p
    by_cases e : x = t
    · subst e
      show valV ((Sum.inl x, rsV z) :: kvR r) (.inl x) = _
      rw [valV_pos rfl, List.lookup_cons]; simp
    · show valV ((Sum.inl x, rsV z) :: kvR r) (.inl t) = _
      rw [valV_neg (by simpa using e), ih, List.lookup_cons]
      have : (t == x) = false := by simpa using Ne.symm e
      rw [this]
theorem lookup_mem (tr : List (Int × Option Nat)) (t : Int) : (tr.lookup t).isSome = decide (t ∈ tms tr) := by
  induction tr with
  | nil => rfl
  | cons p r ih =>
    obtain ⟨x, z⟩ := p
    rw [List.lookup_cons]
    by_cases e : t = x
    · subst e; simp
    · have : (t == x) = false := by simpa using e
      rw [this]
      simp only [ih, tms, List.map_cons, List.mem_cons, e, false_or]
theorem kvR_some (tr : List (Int × Option Nat)) (t : Int) : (valV (kvR tr) (.inl t)).isSome = decide (t ∈ tms tr) := by rw [kvR_val, Option.isSome_map, lookup_mem]
theorem kvR_put {tr : List (Int × Option Nat)} {t : Int} (h : t ∉ tms tr) (r : Option Nat) : putK (kvR tr) (.inl t) (rsV r) = kvR (tr ++ [(t, r)]) := by
  unfold putK
  rw [valV_any, kvR_some, decide_eq_false h]
  simp [kvR]
/-- what add touches -/
theorem So.fields {C : Addr} {w : Wd} {A : SA} {n : Nat} {s : Sv} {f : Int → List Nat} (S : So C w A n s f) : A.g ≠ A.cl ∧ A.g ≠ A.tr ∧ A.g ≠ A.rs ∧ A.g ≠ A.st ∧ A.g ≠ A.us ∧ A.cl ≠ A.rs ∧ A.tr ≠ A.rs ∧ A.st ≠ A.rs ∧ A.cl ≠ A.us ∧ A.tr ≠ A.us ∧ A.st ≠ A.us := by
  obtain ⟨cv, c1, _⟩ := S.cl
  obtain ⟨sv, s1, _⟩ := S.st
  obtain ⟨uv, u1, _⟩ := S.us
  have h := fun {a b : Addr} {o o' : HO} (x : Op w a o) (y : Op w b o') (hne : o ≠ o') => op_ne x y hne
  refine ⟨h S.og c1 (by simp), h S.og S.tr (by simp), h S.og S.rs (by simp), h S.og s1 (by simp), h S.og u1 (by simp), h c1 S.rs (by simp), h S.tr S.rs (by simp), h s1 S.rs (by simp), h c1 u1 (by simp), h S.tr u1 (by simp), h s1 u1 (by simp)⟩
section
variable {v : Ev} {n N : Nat} {w : Wd} {A : SA} {s : Sv} {f : Int → List Nat} {Q : VK} {E : XK}
/-- a term and its reason join the trail -/
theorem add_spec {t : Int} {r : Option Nat} {x : V} (hx : x = rsV r) (S : So (v.cls c_Solver) w A n s f) (ht : t ∉ tms s.tr) (hl : s.tr.length < 3000) (q : ∀ w', Ex [A.tr, A.rs] w w' → So (v.cls c_Solver) w' A n { s with tr := s.tr ++ [(t, r)] } f → Q .non w'.H) : spOf v D (N + 1) i_Solver_add [.ref A.g, .int t, x] w.H Q E := by
  have F := S.fields
  refine in_Solver_add ?_
  unfold b_Solver_add
  walk_at "g5"
  refine k_flH S.og.h rfl ?_
  walk_at "g5"
  refine k_m1 S.tr.h rfl ?_
  walk_at "g5"
  refine m_app S.tr (by rw [List.length_map, List.length_map, sizeLine_eq]; omega) fun w1 e1 o1 => ?_
  have og1 := S.og.ex e1 (by simpa using F.2.1)
  have rs1 := S.rs.ex e1 (by simpa using F.2.2.2.2.2.2.1.symm)
  walk_at "g5"
  refine k_flH og1.h rfl ?_
  walk_at "g5"
  refine k_set_dK (k := .inl t) rs1 rfl (by unfold kvR; rw [List.length_map, sizeLine_eq]; omega) fun w2 e2 o2 => ?_
  walk_at "g5"
  rw [hx, kvR_put ht] at o2
  have nop : ∀ b ∈ [A.tr, A.rs], ¬ w.S b := by simp; exact ⟨S.tr.n, S.rs.n⟩
  have E2 : Ex [A.tr, A.rs] w w2 := ((Ex.refl w).more (by simp) nop |>.trans e1 (by simp)).trans e2 (by simp)
  obtain ⟨cv, c1, dc⟩ := S.cl
  obtain ⟨sv, s1, ds⟩ := S.st
  obtain ⟨kv, u1, U⟩ := S.us
  refine q w2 E2 ⟨S.bx.trans E2 fun b hb => .inr (S.fr b (by simp at hb ⊢; rcases hb with rfl | rfl <;> simp)), S.fr, og1.ex e2 (by simpa using F.2.2.1), ⟨cv, c1.ex E2 (by simp; exact ⟨S.ne1, F.2.2.2.2.2.1⟩), dc.ex E2⟩, ?_, o2, ⟨sv, s1.ex E2 (by simp; exact ⟨S.ne2.symm, F.2.2.2.2.2.2.2.1⟩), ds.ex E2⟩, ⟨kv, u1.ex E2 (by simp; exact ⟨F.2.2.2.2.2.2.2.2.2.1.symm, S.ne4.symm⟩), U.ex E2 fun a xs oa ha => ?_⟩, S.ne1, S.ne2, S.ne3, S.ne4⟩
  · have := o1.ex e2 (by simpa using F.2.2.2.2.2.2.1)
    simpa using this
  · simp only [List.mem_cons, List.not_mem_nil, or_false] at ha ⊢
    rintro (rfl | rfl)
    · exact ha (.inr (.inl rfl))
    · exact op_ne oa S.rs (by simp) rfl
end
section
variable {v : Ev} {n N : Nat} {w : Wd} {A : SA} {s : Sv} {Q : VK} {E : XK}
theorem flt_snoc {cl : List Int} {p : Int → Bool} {i : Nat} (h : i < cl.length) : (cl.take (i + 1)).filter p = (cl.take i).filter p ++ (if p (cl.getD i 0) = true then [cl.getD i 0] else []) := by
  have tk : cl.take (i + 1) = cl.take i ++ [cl.getD i 0] := by rw [List.take_add_one, List.getD_eq_getElem?_getD, List.getElem?_eq_getElem h]; rfl
  rw [tk, List.filter_append, List.filter_cons]
  split <;> simp
theorem opn_spec {x : V} {cl : List Int} (S : So (v.cls c_Solver) w A n s) (dx : Dv w x (ids cl)) (hl : cl.length ≤ 3000)
    (q : (opT s.tr cl = none → Q .non w.H) ∧ ∀ os, opT s.tr cl = some os → ∀ w' p, Ex [] w w' → w.H p = none → Op w' p (.lst (os.map V.int)) → Q (.ref p) w'.H) (q0 : ∀ w', Ex [] w w' → opT s.tr cl = none → Q .non w'.H) : spOf v D (N + 1) i_Solver_open_terms [.ref A.g, x] w.H Q E := by
  refine in_Solver_open_terms ?_
  unfold b_Solver_open_terms
  walk_at "g5"
  refine k_lstO (by simp) fun w1 p e1 hp o1 => ?_
  walk_at "g5"
  refine k_for_D (dx.ex e1) (fun i σ w' => ∃ a3, σ = [some (.ref A.g), some x, some (.ref p), a3] ∧ Ex [] w w' ∧ Ex [p] w1 w' ∧ (∀ t ∈ cl.take i, t ∉ tms s.tr) ∧ Op w' p (.lst (((cl.take i).filter fun t => decide (-t ∉ tms s.tr)).map V.int))) (fun i σ w' h => by obtain ⟨_, _, _, h, _⟩ := h; exact ⟨_, h⟩)
    ⟨_, rfl, e1, (Ex.refl w1).more (by simp) (by simpa using o1.n), by simp, by simpa using o1⟩ ?_ ?_
  · rintro i d y σ w' hd dy ⟨a3, rfl, E', ET, hno, o'⟩
    obtain ⟨hi, rfl⟩ := get_map (z := (0 : Int)) hd
    obtain rfl := dy.of_int
    have og := S.og.ex E' (by simp)
    have rs := S.rs.ex E' (by simp)
    have tk : cl.take (i + 1) = cl.take i ++ [cl.getD i 0] := by rw [List.take_add_one, List.getD_eq_getElem?_getD, List.getElem?_eq_getElem hi]; rfl
    have hm : cl.getD i 0 ∈ cl := by rw [List.getD_eq_getElem?_getD, List.getElem?_eq_getElem hi]; exact List.getElem_mem _
    have fs := flt_snoc (p := fun t => decide (-t ∉ tms s.tr)) hi
    have fl : ((cl.take i).filter fun t => decide (-t ∉ tms s.tr)).length ≤ i := Nat.le_trans (List.length_filter_le _ _) (by rw [List.length_take]; omega)
    generalize cl.getD i 0 = t at hm fs tk
    walk_at "g5"
    refine k_flH og.h rfl ?_
    refine c_in_dK (k := .inl t) rs.h rfl ?_
    rw [kvR_some]
    refine kif_d (fun h => ?_) fun h => ?_
    · walk_at "g5"
      refine q0 w' E' ?_
      unfold opT
      rw [if_pos (List.any_eq_true.mpr ⟨t, hm, by simpa using h⟩)]
    · walk_at "g5"
      refine k_flH og.h rfl ?_
      refine c_nin_dK (k := .inl (-t)) rs.h rfl ?_
      rw [kvR_some]
      have hno' : ∀ u ∈ cl.take (i + 1), u ∉ tms s.tr := fun u hu => by
        rw [tk] at hu
        rcases List.mem_append.mp hu with hu | hu
        · exact hno u hu
        · simp only [List.mem_singleton] at hu
          rw [hu]; exact h
      refine kif_n (fun h2 => ?_) fun h2 => ?_
      · walk_at "g5"
        refine k_m1 o'.h rfl ?_
        walk_at "g5"
        refine m_app o' (by rw [List.length_map, sizeLine_eq]; omega) fun w2 e2 o2 => ?_
        walk_at "g5"
        refine k_is ⟨_, rfl, E'.tf e2 hp, ET.tt e2, hno', ?_⟩
        rw [fs, if_pos (by simpa using h2), List.map_append]
        exact o2
      · walk_at "g5"
        refine k_is ⟨_, rfl, E', ET, hno', ?_⟩
        rw [fs, if_neg (by simpa using h2), List.append_nil]
        exact o'
  · rintro σ w' ⟨a3, rfl, E', ET, hno, o'⟩
    rw [List.length_map, List.take_length] at hno o'
    walk_at "g5"
    refine q.2 _ ?_ w' p E' hp o'
    unfold opT
    rw [if_neg fun z => by
      obtain ⟨t, h1, h2⟩ := List.any_eq_true.mp z
      exact hno t h1 (by simpa using h2)]
end
section
variable {v : Ev} {n N : Nat} {w : Wd} {A : SA} {s : Sv} {Q : VK} {E : XK}
theorem opT_mem {tr : List (Int × Option Nat)} {cl os : List Int} (h : opT tr cl = some os) : ∀ t ∈ os, t ∈ cl ∧ t ∉ tms tr ∧ -t ∉ tms tr := by
  unfold opT at h
  split at h
  · cases h
  · rename_i hn
    cases h
    intro t ht
    obtain ⟨h1, h2⟩ := List.mem_filter.mp ht
    exact ⟨h1, fun z => hn (List.any_eq_true.mpr ⟨t, h1, by simpa using z⟩), by simpa using h2⟩
theorem cls_at {K : PySem.W.Frag} {C : Addr} {k : Nat} {f : Int → List Nat} (S : So C w A n s f) (hk : k < s.cls.length) (q : ∀ x, Dv w x (ids (s.cls.getD k [])) → Q x w.H) : KI2 K (.ref A.cl) Q (.int (k : Nat)) w.H := by
  obtain ⟨vs, o, d⟩ := S.cl
  exact i_OM (z := ([] : List Int)) (g := ids) o.h d (by omega) (by omega) fun y dy => q y (by rw [Int.toNat_natCast] at dy; exact dy)
theorem look_spec {k : Nat} (S : So (v.cls c_Solver) w A n s) (hk : k < s.cls.length) (hc : ∀ c ∈ s.cls, c.length ≤ 2500) (hl : s.tr.length < 3000)
    (q : ∀ w', Ex [A.tr, A.rs] w w' → So (v.cls c_Solver) w' A n (lookF s k).2 → Q (.bl (lookF s k).1) w'.H) : spOf v D (N + 2) i_Solver_look [.ref A.g, .int (k : Nat)] w.H Q E := by
  have nop : ∀ b ∈ [A.tr, A.rs], ¬ w.S b := by simp; exact ⟨S.tr.n, S.rs.n⟩
  have S0 : ∀ {w'}, Ex [] w w' → So (v.cls c_Solver) w' A n s := fun {w'} e => S.ex e
  have hcl : (s.cls.getD k []).length ≤ 2500 := hc _ (by rw [List.getD_eq_getElem?_getD, List.getElem?_eq_getElem hk]; exact List.getElem_mem _)
  have hF : lookF s k = match opT s.tr (s.cls.getD k []) with
      | some [] => (true, s)
      | some [t] => (false, { s with tr := s.tr ++ [(t, some k)] })
      | _ => (false, s) := rfl
  refine in_Solver_look ?_
  unfold b_Solver_look
  walk_at "g5"
  refine k_meH S.og.h rfl ?_
  walk_at "g5"
  refine k_flH S.og.h rfl ?_
  refine cls_at S hk fun x dx => ?_
  walk_at "g5"
  have none_ : ∀ w', Ex [] w w' → opT s.tr (s.cls.getD k []) = none → Q (.bl false) w'.H := fun w' e h => by
    have := q w' (e.more (by simp) nop)
    rw [hF, h] at this
    exact this (S0 e)
  refine opn_spec S dx (by omega) ⟨fun h => ?_, fun os ho w1 p e1 hp o1 => ?_⟩ fun w1 e1 h => ?_
  · walk_at "g5"
    exact none_ w (Ex.refl w) h
  · have S1 := S0 e1
    have E1 := e1.more (U := [A.tr, A.rs]) (by simp) nop
    rw [hF, ho] at q
    have om := opT_mem ho
    have ol : os.length ≤ 2500 := by
      unfold opT at ho
      split at ho
      · cases ho
      · cases ho; exact Nat.le_trans (List.length_filter_le _ _) hcl
    walk_at "g5"
    refine k_to (fun h => by cases h) fun _ => ?_
    walk_at "g5"
    refine f_lenO o1.h ?_
    rw [List.length_map]
    walk_at "g5"
    refine kif_d (fun h => ?_) fun h => ?_
    · walk_at "g5"
      match os, h, q with
      | [], h, _ => simp at h
      | [_], h, _ => simp at h
      | _ :: _ :: _, _, q => exact q w1 E1 S1
    · walk_at "g5"
      refine f_lenO o1.h ?_
      rw [List.length_map]
      walk_at "g5"
      refine kif_d (fun h0 => ?_) fun h0 => ?_
      · walk_at "g5"
        match os, h0, q with
        | [], _, q => exact q w1 E1 S1
        | _ :: _, h0, _ => simp at h0; omega
      · match os, h, h0, q, om, o1 with
        | [], _, h0, _, _, _ => simp at h0
        | _ :: _ :: _, h, _, _, _, _ => simp at h; omega
        | [t], _, _, q, om, o1 =>
          have ht := om t (by simp)
          walk_at "g5"
          refine k_meH S1.og.h rfl ?_
          walk_at "g5"
          refine i_OG (xs := [t]) o1.h (by decide) (by simp) ?_
          walk_at "g5"
          refine add_spec (r := some k) rfl S1 ht.2.1 hl fun w2 e2 S2 => ?_
          walk_at "g5"
          exact q w2 (E1.tt e2) S2
  · walk_at "g5"
    exact none_ w1 e1 h
end
section
variable {v : Ev} {n N : Nat} {w : Wd} {A : SA} {s : Sv} {Q : VK} {E : XK}
theorem SvOk.len9 (O : SvOk n s) (hn : n ≤ 1000) : (∀ c ∈ s.cls, c.length ≤ 2500) ∧ s.tr.length < 3000 := by
  have := O.len
  exact ⟨fun c hc => by have h := O.cl c hc; have := cl_len h.1 h.2; omega, by omega⟩
abbrev shr1 (s : Sv) : Nat → Bool := fun k => decide ((s.cls.getD k []).length ≤ 1)
theorem begin_spec (hn : n ≤ 1000) (S : So (v.cls c_Solver) w A n s) (O : SvOk n s) (hcl : s.cls.length ≤ 100000) (q : ∀ w', Ex [A.tr, A.rs] w w' → So (v.cls c_Solver) w' A n (beginF s).2 → Q (rsV (beginF s).1) w'.H) : spOf v D (N + 3) i_Solver_begin [.ref A.g] w.H Q E := by
  obtain ⟨cv, c1, dc⟩ := S.cl
  have lcv : cv.length = s.cls.length := by rw [dc.length, List.length_map]
  refine in_Solver_begin ?_
  unfold b_Solver_begin
  walk_at "g5"
  refine k_flH S.og.h rfl ?_
  refine f_lenO c1.h ?_
  rw [lcv]
  walk_at "g5"
  refine k_r1 (by omega) (by omega) ?_
  have hb : beginF s = looks ((List.range' 0 s.cls.length).filter (shr1 s)) s := by unfold beginF; rw [List.range_eq_range']
  rw [hb] at q
  refine k_for_n s.cls.length (by omega) (fun i σ w' => ∃ s' a1, σ = [some (.ref A.g), a1] ∧ Ex [A.tr, A.rs] w w' ∧ So (v.cls c_Solver) w' A n s' ∧ SvOk n s' ∧ s'.cls = s.cls ∧ looks ((List.range' 0 s.cls.length).filter (shr1 s)) s = looks ((List.range' i (s.cls.length - i)).filter (shr1 s)) s')
    ⟨s, none, rfl, (Ex.refl w).more (by simp) (by simp; exact ⟨S.tr.n, S.rs.n⟩), S, O, rfl, rfl⟩ ?_ ?_
  · rintro i σ w' hi ⟨s', a1, rfl, E', S', O', hc', hl⟩
    have L9 := O'.len9 hn
    have ir : List.range' i (s.cls.length - i) = i :: List.range' (i + 1) (s.cls.length - (i + 1)) := by
      rw [show s.cls.length - i = (s.cls.length - (i + 1)) + 1 by omega, List.range'_succ]
    rw [ir, List.filter_cons] at hl
    walk_at "g5"
    refine k_flH S'.og.h rfl ?_
    refine cls_at S' (by rw [hc']; exact hi) fun x dx => ?_
    rw [hc'] at dx
    walk_at "g5"
    refine f_lenL dx ?_
    rw [List.length_map]
    walk_at "g5"
    refine k_ta (fun h => ?_) fun h => ?_
    · have h1 : shr1 s i = true := by have := of_decide_eq_true h; exact decide_eq_true (by omega)
      rw [if_pos h1] at hl
      walk_at "g5"
      refine k_meH S'.og.h rfl ?_
      walk_at "g5"
      refine look_spec S' (by rw [hc']; exact hi) L9.1 L9.2 fun w2 e2 S2 => ?_
      have L := O'.look (k := i) (by rw [hc']; exact hi)
      have hl2 : looks (i :: (List.range' (i + 1) (s.cls.length - (i + 1))).filter (shr1 s)) s' = if (lookF s' i).1 = true then (some i, (lookF s' i).2) else looks ((List.range' (i + 1) (s.cls.length - (i + 1))).filter (shr1 s)) (lookF s' i).2 := rfl
      rw [hl2] at hl
      walk_at "g5"
      cases hcf : (lookF s' i).1 with
      | true =>
        rw [hcf, if_pos rfl] at hl
        rw [hl] at q
        walk_at "g5"
        exact q w2 (E'.tt e2) S2
      | false =>
        rw [hcf, if_neg (by simp)] at hl
        walk_at "g5"
        exact k_is ⟨_, _, rfl, E'.tt e2, S2, L.1, by rw [L.2.1]; exact hc', hl⟩
    · have h1 : ¬ shr1 s i = true := fun z => by have := of_decide_eq_false h; have := of_decide_eq_true z; omega
      rw [if_neg h1] at hl
      walk_at "g5"
      exact k_is ⟨s', _, rfl, E', S', O', hc', hl⟩
  · rintro σ w' ⟨s', a1, rfl, E', S', O', hc', hl⟩
    rw [Nat.sub_self] at hl
    rw [hl] at q
    walk_at "g5"
    exact q w' E' S'
end
theorem getD_in {α : Type} {l : List α} {i : Nat} {z : α} (h : i < l.length) : l.getD i z ∈ l := by rw [List.getD_eq_getElem?_getD, List.getElem?_eq_getElem h]; exact List.getElem_mem _
theorem Ex.any {T U : List Addr} {w w1 w2 : Wd} (e : Ex T w w1) (f : Ex U w1 w2) : ∃ X, Ex X w w2 :=
  ⟨T ++ U, (e.more (fun b h => List.mem_append.mpr (.inl h)) fun b h => (List.mem_append.mp h).elim (e.op b) fun h s => f.op b h (e.sub b s)).trans f fun b h => .inl (List.mem_append.mpr (.inr h))⟩
def addU (f : Int → List Nat) (c : List Int) (k : Nat) : Int → List Nat := fun t => if t ∈ c then f t ++ [k] else f t
theorem addU_snoc {f : Int → List Nat} {c : List Int} {k i : Nat} (hd : c.Nodup) (hi : i < c.length) : (fun u => if u = c.getD i 0 then addU f (c.take i) k (c.getD i 0) ++ [k] else addU f (c.take i) k u) = addU f (c.take (i + 1)) k := by
  have tk : c.take (i + 1) = c.take i ++ [c.getD i 0] := by rw [List.take_add_one, List.getD_eq_getElem?_getD, List.getElem?_eq_getElem hi]; rfl
  have hn : c.getD i 0 ∉ c.take i := by
    intro z
    have h1 : (c.take i ++ [c.getD i 0]).Nodup := by rw [← tk]; exact (List.take_sublist _ _).nodup hd
    exact (List.nodup_append.mp h1).2.2 _ z _ (by simp) rfl
  generalize c.getD i 0 = t at tk hn
  funext u
  unfold addU
  rw [tk]
  by_cases e : u = t
  · subst e
    rw [if_pos rfl, if_neg hn, if_pos (by simp)]
  · rw [if_neg e]
    by_cases h : u ∈ c.take i
    · rw [if_pos h, if_pos (by simp [h])]
    · rw [if_neg h, if_neg (by simp [h, e])]
section
variable {w w' : Wd} {A : SA} {kvs : List (Key × V)} {f : Int → List Nat}
theorem Us.app (U : Us w A kvs f) {t : Int} {a : Addr} {k : Nat} (h : valV kvs (.inl t) = some (.ref a)) (e : Ex [a] w w') (o : Op w' a (.lst ((f t).map (fun k : Nat => V.int (k : Int)) ++ [.int (k : Nat)]))) : Us w' A kvs fun u => if u = t then f t ++ [k] else f u := by
  refine ⟨fun u hu => ?_, fun u x hx => ?_, U.two, U.ks⟩
  · have : u ≠ t := fun z => by rw [z, h] at hu; cases hu
    rw [if_neg this]; exact U.no u hu
  · obtain ⟨b, e1, hb, ob, hf⟩ := U.yes u x hx
    by_cases z : u = t
    · subst z
      rw [h] at hx
      cases hx
      cases e1
      refine ⟨a, rfl, hb, ?_, hf⟩
      rw [if_pos rfl, List.map_append]
      exact o
    · refine ⟨b, e1, hb, ?_, hf⟩
      rw [if_neg z]
      refine ob.ex e ?_
      simp only [List.mem_singleton]
      rintro rfl
      rw [e1] at hx
      exact z (U.two u t _ hx h)
theorem keys_put {κ : Type} [DecidableEq κ] (kvs : List (κ × V)) (k : κ) (x : V) : (putK kvs k x).map (·.1) = if k ∈ kvs.map (·.1) then kvs.map (·.1) else kvs.map (·.1) ++ [k] := by
  unfold putK
  have e : (kvs.any fun kv => decide (kv.1 = k)) = decide (k ∈ kvs.map (·.1)) := by
    rw [Bool.eq_iff_iff]
    simp only [List.any_eq_true, decide_eq_true_eq, List.mem_map]
  rw [e]
  by_cases h : k ∈ kvs.map (·.1)
  · rw [if_pos h, decide_eq_true h, if_pos rfl, List.map_map]
    refine List.map_congr_left fun p _ => ?_
    show (if p.1 = k then (p.1, x) else p).1 = p.1
    split <;> rfl
  · rw [if_neg h, decide_eq_false h, if_neg (by simp), List.map_append]; rfl
theorem Us.new (U : Us w A kvs f) {t : Int} {p : Addr} (h : valV kvs (.inl t) = none) (ht : 1 ≤ t.natAbs ∧ t.natAbs ≤ 1000) (hp : w.H p = none) (hb : A.b.H p = none) (hm : p ∉ [A.cl, A.tr, A.st]) (e : Ex [A.us] w w') (hus : ∀ a xs, Op w a (.lst xs) → a ≠ A.us) (o : Op w' p (.lst [])) : Us w' A (putK kvs (.inl t) (.ref p)) f := by
  refine ⟨fun u hu => ?_, fun u x hx => ?_, fun u u2 x h1 h2 => ?_, ?_⟩
  · rw [valV_put] at hu
    split at hu
    · cases hu
    · exact U.no u hu
  · rw [valV_put] at hx
    split at hx
    · rename_i e1
      cases e1
      cases hx
      refine ⟨p, rfl, hm, ?_, hb⟩
      rw [U.no t h]; exact o
    · obtain ⟨b, e1, hb, ob, hf⟩ := U.yes u x hx
      exact ⟨b, e1, hb, ob.ex e (by simpa using hus _ _ ob), hf⟩
  · rw [valV_put] at h1 h2
    have old : ∀ u, valV kvs (.inl u) = some (V.ref p) → False := fun u hu => by
      obtain ⟨b, e1, _, ob, _⟩ := U.yes u _ hu
      cases e1
      rw [ob.h] at hp; cases hp
    split at h1 <;> split at h2
    · rename_i e1 e2; cases e1; cases e2; rfl
    · cases h1; exact (old u2 h2).elim
    · cases h2; exact (old u h1).elim
    · exact U.two u u2 x h1 h2
  · obtain ⟨ts, e1, nd, hr⟩ := U.ks
    rw [keys_put, e1]
    by_cases hm : t ∈ ts
    · rw [if_pos (List.mem_map.mpr ⟨t, hm, rfl⟩)]
      exact ⟨ts, rfl, nd, hr⟩
    · rw [if_neg fun z => by obtain ⟨x, h1, h2⟩ := List.mem_map.mp z; cases h2; exact hm h1]
      refine ⟨ts ++ [t], by simp, ?_, fun u hu => ?_⟩
      · rw [List.nodup_append]
        exact ⟨nd, by simp, fun a ha b hb => by simp only [List.mem_singleton] at hb; subst hb; exact fun z => hm (z ▸ ha)⟩
      · rcases List.mem_append.mp hu with hu | hu
        · exact hr u hu
        · rw [List.mem_singleton.mp hu]; exact ht
theorem Us.len (U : Us w A kvs f) : kvs.length ≤ 2000 := by
  obtain ⟨ts, e1, nd, hr⟩ := U.ks
  have := congrArg List.length e1
  rw [List.length_map, List.length_map] at this
  have := cl_len nd hr
  omega
end
section
variable {v : Ev} {n N : Nat} {w : Wd} {A : SA} {s : Sv} {f : Int → List Nat} {Q : VK} {E : XK}
/-- other users -/
theorem So.swap {C : Addr} {w' : Wd} {T : List Addr} {g : Int → List Nat} (S : So C w A n s f) (e : Ex T w w') (hT : ∀ b ∈ T, A.b.H b = none ∧ b ≠ A.g ∧ b ∉ [A.cl, A.tr, A.st] ∧ b ≠ A.rs) (us : ∃ kvs, Op w' A.us (.dK kvs) ∧ Us w' A kvs g) : So C w' A n s g := by
  obtain ⟨cv, c1, dc⟩ := S.cl
  obtain ⟨sv, s1, ds⟩ := S.st
  refine ⟨S.bx.trans e fun b hb => .inr (hT b hb).1, S.fr, S.og.ex e fun z => (hT _ z).2.1 rfl, ⟨cv, c1.ex e fun z => (hT _ z).2.2.1 (by simp), dc.ex e⟩, S.tr.ex e fun z => (hT _ z).2.2.1 (by simp), S.rs.ex e fun z => (hT _ z).2.2.2 rfl, ⟨sv, s1.ex e fun z => (hT _ z).2.2.1 (by simp), ds.ex e⟩, us, S.ne1, S.ne2, S.ne3, S.ne4⟩
theorem addU_nil {C : Addr} {c : List Int} {k : Nat} (S : So C w A n s f) : So C w A n s (addU f (c.take 0) k) := by
  have e : addU f (c.take 0) k = f := by funext t; simp [addU]
  rw [e]; exact S
theorem note_spec {k : Nat} (S : So (v.cls c_Solver) w A n s f) (hk : k < s.cls.length) (hc : (s.cls.getD k []).Nodup ∧ ∀ t ∈ s.cls.getD k [], 1 ≤ t.natAbs ∧ t.natAbs ≤ n) (hn : n ≤ 1000) (hf : ∀ t, (f t).length < 100000)
    (q : ∀ w' T, Ex T w w' → So (v.cls c_Solver) w' A n s (addU f (s.cls.getD k []) k) → Q .non w'.H) : spOf v D (N + 1) i_Solver_note [.ref A.g, .int (k : Nat)] w.H Q E := by
  refine in_Solver_note ?_
  unfold b_Solver_note
  walk_at "g5"
  refine k_flH S.og.h rfl ?_
  refine cls_at S hk fun x dx => ?_
  walk_at "g5"
  refine k_for_D dx (fun i σ w' => ∃ a2 T, σ = [some (.ref A.g), some (.int (k : Nat)), a2] ∧ Ex T w w' ∧ So (v.cls c_Solver) w' A n s (addU f ((s.cls.getD k []).take i) k)) (fun i σ w' h => by obtain ⟨_, _, _, h, _⟩ := h; exact ⟨_, h⟩)
    ⟨none, [], rfl, Ex.refl w, addU_nil S⟩ ?_ ?_
  · rintro i d y σ w' hd dy ⟨a2, T, rfl, E', S'⟩
    obtain ⟨hi, rfl⟩ := get_map (z := (0 : Int)) hd
    obtain rfl := dy.of_int
    have hm : (s.cls.getD k []).getD i 0 ∈ s.cls.getD k [] := getD_in hi
    have ht := hc.2 _ hm
    have sn := addU_snoc (f := f) (k := k) hc.1 hi
    have fl : ∀ u, (addU f ((s.cls.getD k []).take i) k u).length ≤ 100000 := fun u => by
      have := hf u
      unfold addU
      split
      · rw [List.length_append, List.length_singleton]; omega
      · omega
    generalize (s.cls.getD k []).getD i 0 = t at hm ht sn
    obtain ⟨kvs, u1, U⟩ := S'.us
    have F := S'.fields
    obtain ⟨cv, c1, dc⟩ := S'.cl
    obtain ⟨sv, s1, ds⟩ := S'.st
    walk_at "g5"
    refine k_flH S'.og.h rfl ?_
    refine c_nin_dK (k := .inl t) u1.h rfl ?_
    cases hv : valV kvs (.inl t) with
    | none =>
      simp only [Option.isSome_none, Option.isSome_some, Bool.not_false, Bool.not_true]
      walk_at "g5"
      refine k_lstO (by simp) fun w1 p e1 hp o1 => ?_
      have S1 := S'.ex e1
      have u1' := u1.ex e1 (by simp)
      have pu : p ≠ A.us := fun z => by rw [z, u1.h] at hp; cases hp
      walk_at "g5"
      refine k_flH S1.og.h rfl ?_
      walk_at "g5"
      refine k_set_dK (k := .inl t) u1' rfl (by have := U.len; rw [sizeLine_eq]; omega) fun w2 e2 o2 => ?_
      have hb : A.b.H p = none := S'.bx.free hp
      have e12 : Ex [A.us] w' w2 := (e1.more (U := [A.us]) (by simp) (by simpa using u1.n)).tt e2
      have U2 := U.new hv (by omega) hp hb (by
        simp only [List.mem_cons, List.not_mem_nil, or_false]
        rintro (rfl | rfl | rfl)
        · rw [c1.h] at hp; cases hp
        · rw [S'.tr.h] at hp; cases hp
        · rw [s1.h] at hp; cases hp) e12 (fun a xs oa => op_ne oa u1 (by simp)) (o1.ex e2 (by simpa using pu))
      have S2 : So (v.cls c_Solver) w2 A n s (addU f ((s.cls.getD k []).take i) k) := S'.swap e12 (by simp; exact ⟨S'.fr _ (by simp), F.2.2.2.2.1.symm, ⟨F.2.2.2.2.2.2.2.2.1.symm, F.2.2.2.2.2.2.2.2.2.1.symm, F.2.2.2.2.2.2.2.2.2.2.symm⟩, S'.ne4.symm⟩) ⟨_, o2, U2⟩
      have v2 : valV (putK kvs (.inl t) (.ref p)) (.inl t) = some (.ref p) := by rw [valV_put, if_pos rfl]
      walk_at "g5"
      refine k_flH S2.og.h rfl ?_
      walk_at "g5"
      refine i_dK (k := .inl t) o2.h rfl v2 ?_
      obtain ⟨_, z, hpm, op, _⟩ := U2.yes t _ v2
      cases z
      refine k_m1 op.h rfl ?_
      walk_at "g5"
      refine m_app op (by have := fl t; rw [List.length_map, sizeLine_eq]; omega) fun w3 e3 o3 => ?_
      have U3 := U2.app v2 e3 o3
      rw [sn] at U3
      walk_at "g5"
      have pg : p ≠ A.g := op_ne op S2.og (by simp)
      have pr : p ≠ A.rs := op_ne op S2.rs (by simp)
      have S3 := S2.swap e3 (by simp only [List.mem_singleton]; rintro b rfl; exact ⟨hb, pg, hpm, pr⟩) ⟨_, o2.ex e3 (by simpa using pu.symm), U3⟩
      obtain ⟨T2, E2⟩ := Ex.any E' e12
      obtain ⟨T3, E3⟩ := Ex.any E2 e3
      exact k_is ⟨_, T3, rfl, E3, S3⟩
    | some y =>
      obtain ⟨p, rfl, hpm, op, hb⟩ := U.yes t y hv
      simp only [Option.isSome_none, Option.isSome_some, Bool.not_false, Bool.not_true]
      walk_at "g5"
      refine k_flH S'.og.h rfl ?_
      walk_at "g5"
      refine i_dK (k := .inl t) u1.h rfl hv ?_
      refine k_m1 op.h rfl ?_
      walk_at "g5"
      refine m_app op (by have := fl t; rw [List.length_map, sizeLine_eq]; omega) fun w3 e3 o3 => ?_
      have U3 := U.app hv e3 o3
      rw [sn] at U3
      walk_at "g5"
      have pg : p ≠ A.g := op_ne op S'.og (by simp)
      have pr : p ≠ A.rs := op_ne op S'.rs (by simp)
      have pu : p ≠ A.us := op_ne op u1 (by simp)
      have S3 := S'.swap e3 (by simp only [List.mem_singleton]; rintro b rfl; exact ⟨hb, pg, hpm, pr⟩) ⟨_, u1.ex e3 (by simpa using pu.symm), U3⟩
      obtain ⟨T3, E3⟩ := Ex.any E' e3
      exact k_is ⟨_, T3, rfl, E3, S3⟩
  · rintro σ w' ⟨a2, T, rfl, E', S'⟩
    walk_at "g5"
    rw [List.length_map, List.take_length] at S'
    exact q w' T E' S'
end
section
variable {v : Ev} {n N : Nat} {w : Wd} {A : SA} {s : Sv} {f : Int → List Nat} {Q : VK} {E : XK}
theorem So.op2 {C : Addr} (S : So C w A n s f) : ∀ b ∈ [A.tr, A.rs], ¬ w.S b := by simp; exact ⟨S.tr.n, S.rs.n⟩
theorem So.hd {C : Addr} {w' : Wd} {gs : List (Str × V)} {h : Nat} (S : So C w A n s f) (e : Ex [A.g] w w') (o : Op w' A.g (.ins C A.dx gs)) (hg : gs = sfs A n h) : So C w' A n { s with hd := h } f := by
  subst hg
  obtain ⟨cv, c1, dc⟩ := S.cl
  obtain ⟨sv, s1, ds⟩ := S.st
  obtain ⟨kv, u1, U⟩ := S.us
  have F := S.fields
  have n1 : ∀ b, A.g ≠ b → b ∉ [A.g] := fun b h => by simpa using h.symm
  exact ⟨S.bx.trans e fun b hb => .inr (S.fr b (by simp at hb ⊢; simp [hb])), S.fr, o, ⟨cv, c1.ex e (n1 _ F.1), dc.ex e⟩, S.tr.ex e (n1 _ F.2.1), S.rs.ex e (n1 _ F.2.2.1), ⟨sv, s1.ex e (n1 _ F.2.2.2.1), ds.ex e⟩, ⟨kv, u1.ex e (n1 _ F.2.2.2.2.1), U.ex e fun a xs oa _ => n1 _ (op_ne oa S.og (by simp)).symm⟩, S.ne1, S.ne2, S.ne3, S.ne4⟩
theorem prop_spec (hn : n ≤ 1000) (S : So (v.cls c_Solver) w A n s) (O : SvOk n s) (hcl : s.cls.length ≤ 100000)
    (q : ∀ w' T, Ex T w w' → So (v.cls c_Solver) w' A n (propF (n + 1) s).2 → Q (rsV (propF (n + 1) s).1) w'.H) : spOf v D (N + 3) i_Solver_propagate [.ref A.g] w.H Q E := by
  generalize hR : propF (n + 1) s = R at q
  refine in_Solver_propagate ?_
  unfold b_Solver_propagate
  walk_at "g5"
  refine r_whl (fun m σ w' => ∃ s' k a1 a2 T, σ = [some (.ref A.g), a1, a2] ∧ Ex T w w' ∧ So (v.cls c_Solver) w' A n s' ∧ SvOk n s' ∧ s'.cls = s.cls ∧ R = propF k s' ∧ n < s'.hd + k ∧ m = n + 1 - s'.hd) (n + 1 - s.hd)
    ⟨s, n + 1, none, none, [], rfl, Ex.refl w, S, O, rfl, hR.symm, by omega, rfl⟩ ?_
  rintro m σ w1 ⟨s', k, a1, a2, T, rfl, E1, S1, O1, hc1, hp, hk, hm⟩
  have hlen := O1.len
  walk_at "g5"
  refine k_flH S1.og.h rfl ?_
  walk_at "g5"
  refine k_flH S1.og.h rfl ?_
  walk_at "g5"
  refine f_lenO S1.tr.h ?_
  rw [List.length_map, List.length_map]
  walk_at "g5"
  refine k_whd (fun hlt => ?_) fun hge => ?_
  · have hlt : s'.hd < s'.tr.length := by omega
    obtain ⟨k, rfl⟩ : ∃ j, k = j + 1 := ⟨k - 1, by omega⟩
    rw [propF, if_pos hlt] at hp
    have ht : (tms s'.tr).getD s'.hd 0 = (s'.tr.getD s'.hd (0, none)).1 := by
      unfold tms
      rw [List.getD_eq_getElem?_getD, List.getD_eq_getElem?_getD, List.getElem?_map, List.getElem?_eq_getElem hlt]; rfl
    walk_at "g5"
    refine k_flH S1.og.h rfl ?_
    walk_at "g5"
    refine k_flH S1.og.h rfl ?_
    refine i_OG (xs := tms s'.tr) S1.tr.h (by omega) (by rw [List.length_map]; omega) ?_
    rw [Int.toNat_natCast, ht]
    have P := SvOk.spread O1 hlt
    generalize (s'.tr.getD s'.hd (0, none)).1 = t at hp P
    walk_at "g5"
    refine r_augf rfl S1.og rfl (by simp) rfl fun w2 e2 o2 => ?_
    have S2 := S1.hd (h := s'.hd + 1) e2 o2 rfl
    have O2 := SvOk.step O1 hlt
    obtain ⟨T2, E2⟩ := Ex.any E1 e2
    obtain ⟨kvs, u2, U⟩ := S2.us
    walk_at "g5"
    refine k_flH S2.og.h rfl ?_
    refine k_ge1 u2.h ?_
    walk_at "g5"
    refine k_lstO (by simp) fun w3 p0 e3 hp0 o3 => ?_
    have S3 := S2.ex e3
    have E3 := E2.t0 e3
    obtain ⟨p, hpv, op, hpm⟩ : ∃ p, (valV kvs (.inl (-t))).getD (.ref p0) = .ref p ∧ Op w3 p (.lst ((usr s'.cls (-t)).map fun k : Nat => V.int (k : Int))) ∧ p ∉ [A.tr, A.rs] := by
      obtain ⟨kvs', u3, U3⟩ := S3.us
      have : kvs' = kvs := by have := u3.h.symm.trans (u2.ex e3 (by simp)).h; cases this; rfl
      subst this
      cases hv : valV kvs' (.inl (-t)) with
      | none =>
        refine ⟨p0, rfl, ?_, ?_⟩
        · have := U3.no _ hv
          rw [this]; exact o3
        · simp only [List.mem_cons, List.not_mem_nil, or_false]
          rintro (rfl | rfl)
          · rw [S2.tr.h] at hp0; cases hp0
          · rw [S2.rs.h] at hp0; cases hp0
      | some y =>
        obtain ⟨a, rfl, ha, oa, _⟩ := U3.yes _ y hv
        refine ⟨a, rfl, oa, ?_⟩
        simp only [List.mem_cons, List.not_mem_nil, or_false] at ha ⊢
        rintro (rfl | rfl)
        · exact ha (.inr (.inl rfl))
        · exact op_ne oa S3.rs (by simp) rfl
    refine k_ge3 (k := .inl (-t)) (u2.ex e3 (by simp)).h rfl ?_
    rw [hpv]
    refine k_ls op.h ?_
    generalize hks : usr s'.cls (-t) = ks at hp P op
    have hkb : ∀ k ∈ ks, k < s'.cls.length := fun k hk => by rw [← hks] at hk; exact (usr_mem.mp hk).1
    refine k_for_lst (fun i σ w' => ∃ s'' a2 T, σ = [some (.ref A.g), some (.int t), a2] ∧ Ex T w w' ∧ So (v.cls c_Solver) w' A n s'' ∧ SvOk n s'' ∧ s''.cls = s'.cls ∧ looks ks { s' with hd := s'.hd + 1 } = looks (ks.drop i) s'' ∧ Op w' p (.lst (ks.map fun k : Nat => V.int (k : Int))))
      (fun i σ w' h => by obtain ⟨_, _, _, _, _, _, _, _, _, h⟩ := h; exact h.h) ⟨_, _, T2, rfl, E3, S3, O2, rfl, rfl, op⟩ ?_ ?_
    · rintro i x σ w' hx ⟨s'', a3, T3, rfl, E', S', O', hc', hl, op'⟩
      rw [List.getElem?_map] at hx
      obtain ⟨j, hj, rfl⟩ := Option.map_eq_some_iff.mp hx
      rw [drop_at hj] at hl
      have L9 := O'.len9 hn
      have hjl : j < s''.cls.length := by rw [hc']; exact hkb j (List.mem_of_getElem? hj)
      walk_at "g5"
      refine k_meH S'.og.h rfl ?_
      walk_at "g5"
      refine look_spec S' hjl L9.1 L9.2 fun w4 e4 S4 => ?_
      have L := O'.look (k := j) hjl
      have hl2 : looks (j :: ks.drop (i + 1)) s'' = if (lookF s'' j).1 = true then (some j, (lookF s'' j).2) else looks (ks.drop (i + 1)) (lookF s'' j).2 := rfl
      rw [hl2] at hl
      obtain ⟨T4, E4⟩ := Ex.any E' e4
      walk_at "g5"
      cases hcf : (lookF s'' j).1 with
      | true =>
        rw [hcf, if_pos rfl] at hl
        rw [hl] at hp
        dsimp only at hp
        walk_at "g5"
        rw [hp] at q
        exact q w4 T4 E4 S4
      | false =>
        rw [hcf, if_neg (by simp)] at hl
        walk_at "g5"
        exact k_is ⟨_, _, T4, rfl, E4, S4, L.1, L.2.1.trans hc', hl, op'.ex e4 hpm⟩
    · rintro σ w' ⟨s'', a3, T3, rfl, E', S', O', hc', hl, op'⟩
      rw [List.length_map, List.drop_length] at hl
      have hl : looks ks { s' with hd := s'.hd + 1 } = (none, s'') := hl
      rw [hl] at hp P
      dsimp only at hp
      walk_at "g5"
      have hh : s''.hd = s'.hd + 1 := P.2
      exact k_wx (n + 1 - s''.hd) (by omega) ⟨s'', k, _, _, T3, rfl, E', S', O', by rw [hc', hc1], hp, by omega, rfl⟩
  · have hge : ¬ s'.hd < s'.tr.length := by omega
    obtain ⟨k, rfl⟩ : ∃ j, k = j + 1 := ⟨k - 1, by have := O1.hd; omega⟩
    rw [propF, if_neg hge] at hp
    rw [hp] at q
    walk_at "g5"
    exact q w1 T E1 S1
end
section
variable {v : Ev} {n N : Nat} {w : Wd} {A : SA} {s : Sv} {f : Int → List Nat} {Q : VK} {E : XK}
theorem Dvs.intsN (xs : List Int) : Dvs w (xs.map V.int) (xs.map PyData.int) := Dvs.ints xs
/-- the dict of marks -/
theorem mrk_put (ks : List Int) (t : Int) {ms : List Int} (h : ∀ u, u ∈ ks ↔ u ∈ ms) : ∃ ks', putK (kvT ks) (.inl t) (.bl true) = kvT ks' ∧ (∀ u, u ∈ ks' ↔ u ∈ ms ++ [t]) ∧ ks'.length ≤ ks.length + 1 := by
  obtain ⟨ks', e, m, l⟩ := kvT_put ks t
  exact ⟨ks', e, fun u => by rw [m u, h u]; simp, l⟩
theorem mrkF_congr (cls : List (List Int)) : ∀ (r : List (Int × Option Nat)) {a b : List Int}, (∀ t, t ∈ a ↔ t ∈ b) → ∀ t, t ∈ mrkF cls r a ↔ t ∈ mrkF cls r b
  | [], a, b, h, t => h t
  | (u, none) :: r, a, b, h, t => mrkF_congr cls r h t
  | (u, some k) :: r, a, b, h, t => by
    refine mrkF_congr cls r (fun x => ?_) t
    by_cases hu : u ∈ a
    · rw [if_pos hu, if_pos ((h u).mp hu), List.mem_append, List.mem_append, h x]
    · rw [if_neg hu, if_neg fun z => hu ((h u).mpr z)]; exact h x
theorem marked_spec {k : Nat} (hn : n ≤ 1000) (S : So (v.cls c_Solver) w A n s) (O : SvOk n s) (hk : k < s.cls.length)
    (q : ∀ w' p, Ex [] w w' → w.H p = none → Op w' p (.lst ((tms (mkd s k)).map V.int)) → Q (.ref p) w'.H) : spOf v D (N + 1) i_Solver_marked_terms [.ref A.g, .int (k : Nat)] w.H Q E := by
  have L9 := O.len9 hn
  have hln := O.len
  refine in_Solver_marked_terms ?_
  unfold b_Solver_marked_terms
  walk_at "g5"
  refine new_op fun w1 d e1 hd o1 => ?_
  have S1 := S.ex e1
  walk_at "g5"
  refine k_flH S1.og.h rfl ?_
  refine cls_at S1 hk fun x dx => ?_
  have hcl : (s.cls.getD k []).length ≤ 2500 := L9.1 _ (getD_in hk)
  walk_at "g5"
  refine k_for_D dx (fun i σ w' => ∃ a3, σ = [some (.ref A.g), some (.int (k : Nat)), some (.ref d), a3, none, none] ∧ Ex [] w w' ∧ Ex [d] w1 w' ∧ ∃ ks, Op w' d (.dK (kvT ks)) ∧ ks.length ≤ i ∧ ∀ u, u ∈ ks ↔ u ∈ ((s.cls.getD k []).take i).map (-·)) (fun i σ w' h => by obtain ⟨_, _, _, h, _⟩ := h; exact ⟨_, h⟩)
    ⟨_, rfl, e1, (Ex.refl w1).more (by simp) (by simpa using o1.n), [], o1, by simp, by simp⟩ ?_ ?_
  · rintro i dd y σ w' hdd dy ⟨a3, rfl, E', ET, ks, o', hl, hm⟩
    obtain ⟨hi, rfl⟩ := get_map (z := (0 : Int)) hdd
    obtain rfl := dy.of_int
    have tk : (s.cls.getD k []).take (i + 1) = (s.cls.getD k []).take i ++ [(s.cls.getD k []).getD i 0] := by rw [List.take_add_one, List.getD_eq_getElem?_getD (l := s.cls.getD k []) (i := i), List.getElem?_eq_getElem hi]; rfl
    generalize (s.cls.getD k []).getD i 0 = t at tk
    obtain ⟨ks', e', m', l'⟩ := mrk_put ks (-t) hm
    walk_at "g5"
    refine k_set_dK (k := .inl (-t)) o' rfl (by unfold kvT; rw [List.length_map, sizeLine_eq]; omega) fun w2 e2 o2 => ?_
    rw [e'] at o2
    walk_at "g5"
    exact k_is ⟨_, rfl, E'.tf e2 hd, ET.tt e2, ks', o2, by omega, fun u => by rw [m' u, tk, List.map_append]; rfl⟩
  · rintro σ w2 ⟨a3, rfl, E2, ET2, ks, o2, hl2, hm2⟩
    rw [List.length_map] at hl2 hm2
    rw [List.take_length] at hm2
    have S2 := S.ex E2
    walk_at "g5"
    refine k_flH S2.og.h rfl ?_
    refine k_rvL (sqL S2.tr.h) ?_
    rw [List.length_map, List.length_map]
    have hsl : (List.map V.int (tms s.tr)).length = s.tr.length := by rw [List.length_map, List.length_map]
    rw [← hsl]
    refine k_for_rvL (fun i σ w' => ∃ a3 a4 a5, σ = [some (.ref A.g), some (.int (k : Nat)), some (.ref d), a3, a4, a5] ∧ Ex [] w w' ∧ ∃ ks ms, Op w' d (.dK (kvT ks)) ∧ ks.length ≤ 2500 + 2500 * i ∧ (∀ u, u ∈ ks ↔ u ∈ ms) ∧ ∀ u, u ∈ mks s k ↔ u ∈ mrkF s.cls (s.tr.take (s.tr.length - i)).reverse ms) (fun i σ w' h => by obtain ⟨_, _, _, _, E', _⟩ := h; exact sqL (S.ex E').tr.h)
      ⟨_, _, _, rfl, E2, ks, _, o2, by omega, hm2, fun u => by rw [Nat.sub_zero, List.take_length]⟩ ?_ ?_
    · rintro i y σ w' hi hy ⟨a3, a4, a5, rfl, E', ks, ms, o', hl, hm, hmk⟩
      rw [hsl] at hi hy
      have S' := S.ex E'
      obtain ⟨j, hj⟩ : ∃ j, s.tr.length - i = j + 1 := ⟨s.tr.length - 1 - i, by omega⟩
      have hjl : j < s.tr.length := by omega
      rw [show s.tr.length - 1 - i = j by omega, List.getElem?_map] at hy
      obtain ⟨t, ht, rfl⟩ := Option.map_eq_some_iff.mp hy
      unfold tms at ht
      rw [List.getElem?_map] at ht
      obtain ⟨⟨t', r⟩, hp, rfl⟩ := Option.map_eq_some_iff.mp ht
      dsimp only
      rw [hj] at hmk
      have tk : (s.tr.take (j + 1)).reverse = (t', r) :: (s.tr.take j).reverse := by rw [List.take_add_one, hp]; simp
      rw [tk] at hmk
      have hx : s.tr.length - (i + 1) = j := by omega
      have hv : valV (kvR s.tr) (.inl t') = some (rsV r) := by
        rw [kvR_val]
        have one := O.once hp
        have e : s.tr = s.tr.take j ++ (t', r) :: s.tr.drop (j + 1) := by
          conv => lhs; rw [← List.take_append_drop j s.tr]
          rw [drop_at hp]
        have lk : ∀ (l m : List (Int × Option Nat)), t' ∉ tms l → (l ++ (t', r) :: m).lookup t' = some r := by
          intro l m h
          induction l with
          | nil => rw [List.nil_append, List.lookup_cons]; simp
          | cons a l ih =>
            obtain ⟨x, z⟩ := a
            have : (t' == x) = false := by simp only [beq_eq_false_iff_ne]; exact fun e => h (by simp [tms, e])
            rw [List.cons_append, List.lookup_cons, this]
            exact ih fun z => h (by simp [tms] at z ⊢; exact .inr z)
        rw [e, lk _ _ one]; rfl
      walk_at "g5"
      refine k_flH S'.og.h rfl ?_
      walk_at "g5"
      refine i_dK (k := .inl t') S'.rs.h rfl hv ?_
      walk_at "g5"
      refine c_in_dK (k := .inl t') o'.h rfl ?_
      rw [kvT_val]
      by_cases hin : t' ∈ ks
      · rw [if_pos hin]
        cases r with
        | none =>
          simp only [Option.isSome_some, rsV]
          walk_at "g5"
          refine kif_n (fun h => absurd rfl h) fun _ => ?_
          walk_at "g5"
          exact k_is ⟨_, _, _, rfl, E', ks, ms, o', by omega, hm, by rw [hx]; exact hmk⟩
        | some m =>
          have rs := O.rs j t' m hp
          simp only [Option.isSome_some, rsV]
          have hmk : ∀ u, u ∈ mks s k ↔ u ∈ mrkF s.cls (s.tr.take j).reverse (if t' ∈ ms then ms ++ ((s.cls.getD m []).filter fun o => decide (o ≠ t')).map (-·) else ms) := hmk
          rw [if_pos ((hm t').mp hin)] at hmk
          have hcm : (s.cls.getD m []).length ≤ 2500 := L9.1 _ (getD_in rs.1)
          walk_at "g5"
          refine kif_n (fun _ => ?_) fun h => (by cases h)
          walk_at "g5"
          refine k_flH S'.og.h rfl ?_
          refine cls_at S' rs.1 fun x2 dx2 => ?_
          walk_at "g5"
          have fs := fun i h => flt_snoc (cl := s.cls.getD m []) (p := fun o => decide (o ≠ t')) (i := i) h
          refine k_for_D dx2 (fun i2 σ w'' => ∃ a5, σ = [some (.ref A.g), some (.int (k : Nat)), some (.ref d), some (.int t'), some (.int (m : Nat)), a5] ∧ Ex [] w w'' ∧ Ex [d] w' w'' ∧ ∃ ks', Op w'' d (.dK (kvT ks')) ∧ ks'.length ≤ ks.length + i2 ∧ ∀ u, u ∈ ks' ↔ u ∈ ms ++ (((s.cls.getD m []).take i2).filter fun o => decide (o ≠ t')).map (-·)) (fun i σ w' h => by obtain ⟨_, _, _, h, _⟩ := h; exact ⟨_, h⟩)
            ⟨_, rfl, E', (Ex.refl w').more (by simp) (by simpa using o'.n), ks, o', by omega, fun u => by rw [hm u]; simp⟩ ?_ ?_
          · rintro i2 dd2 y2 σ w'' hdd2 dy2 ⟨a6, rfl, E'', ET'', ks', o'', hl', hm'⟩
            obtain ⟨hi2, rfl⟩ := get_map (z := (0 : Int)) hdd2
            obtain rfl := dy2.of_int
            have fs := fs i2 hi2
            generalize (s.cls.getD m []).getD i2 0 = o at fs
            walk_at "g5"
            refine kif_n (fun h => ?_) fun h => ?_
            · obtain ⟨ks2, e2, m2, l2⟩ := mrk_put ks' (-o) hm'
              walk_at "g5"
              refine k_set_dK (k := .inl (-o)) o'' rfl (by unfold kvT; rw [List.length_map, sizeLine_eq]; omega) fun w3 e3 o3 => ?_
              rw [e2] at o3
              walk_at "g5"
              refine k_is ⟨_, rfl, E''.tf e3 hd, ET''.tt e3, ks2, o3, by omega, fun u => ?_⟩
              rw [m2 u, fs, if_pos (by simpa using h), List.map_append, ← List.append_assoc]; rfl
            · walk_at "g5"
              refine k_is ⟨_, rfl, E'', ET'', ks', o'', by omega, fun u => ?_⟩
              rw [hm' u, fs, if_neg (by simpa using h), List.append_nil]
          · rintro σ w'' ⟨a6, rfl, E'', ET'', ks', o'', hl', hm'⟩
            rw [List.length_map] at hl'
            rw [List.length_map, List.take_length] at hm'
            walk_at "g5"
            exact k_is ⟨_, _, _, rfl, E'', ks', _, o'', by omega, hm', by rw [hx]; exact hmk⟩
      · rw [if_neg hin]
        simp only [Option.isSome_none]
        walk_at "g5"
        refine k_is ⟨_, _, _, rfl, E', ks, ms, o', by omega, hm, ?_⟩
        rw [hx]
        intro u
        rw [hmk u]
        cases r with
        | none => exact Iff.rfl
        | some m =>
          show u ∈ mrkF s.cls (s.tr.take j).reverse (if t' ∈ ms then _ else ms) ↔ _
          rw [if_neg fun z => hin ((hm t').mpr z)]
    · rintro σ w3 ⟨a3, a4, a5, rfl, E3, ks, ms, o3, hl3, hm3, hmk⟩
      rw [hsl, Nat.sub_self, List.take_zero] at hmk
      have hmk : ∀ u, u ∈ mks s k ↔ u ∈ ms := hmk
      have S3 := S.ex E3
      walk_at "g5"
      refine k_flH S3.og.h rfl ?_
      refine k_ls S3.tr.h ?_
      refine k_lc_lst (xs := (tms s.tr).map V.int) fun w4 p e4 hp o4 => ⟨fun i w' => Ex [] w w' ∧ Ex [p] w4 w' ∧ Op w' p (.lst ((((tms s.tr).take i).filter fun t => decide (t ∈ mks s k)).map V.int)) ∧ w'.H d = some (.dK (kvT ks)) ∧ w'.H A.tr = some (.lst ((tms s.tr).map V.int)), ?_, fun i w' h => sqL h.2.2.2.2, ?_, ?_⟩
      · exact ⟨E3.t0 e4, (Ex.refl w4).more (by simp) (by simpa using o4.n), by simpa using o4, e4.kp _ _ o3.h (by simp), e4.kp _ _ S3.tr.h (by simp)⟩
      · rintro i y w' hy ⟨E', ET, o', od, ot⟩
        rw [List.getElem?_map] at hy
        obtain ⟨t, ht, rfl⟩ := Option.map_eq_some_iff.mp hy
        have hi : i < (tms s.tr).length := by
          rcases Nat.lt_or_ge i (tms s.tr).length with h | h
          · exact h
          · rw [List.getElem?_eq_none h] at ht; cases ht
        have fs := flt_snoc (cl := tms s.tr) (p := fun t => decide (t ∈ mks s k)) hi
        rw [List.getD_eq_getElem?_getD, ht, Option.getD_some] at fs
        have tl : (((tms s.tr).take i).filter fun t => decide (t ∈ mks s k)).length ≤ i := Nat.le_trans (List.length_filter_le _ _) (by rw [List.length_take]; omega)
        have hi' : i < 3000 := by rw [List.length_map] at hi; omega
        refine g_nm ?_
        dsimp only [wipe, List.set_cons_zero, List.set_cons_succ]
        refine k_lb1 rfl ?_
        walk_at "g5"
        refine c_in_dK (k := .inl t) od rfl ?_
        have hiff : (valV (kvT ks) (.inl t)).isSome = decide (t ∈ mks s k) := by
          rw [kvT_val]
          by_cases z : t ∈ ks
          · rw [if_pos z, decide_eq_true ((hmk t).mpr ((hm3 t).mp z))]; rfl
          · rw [if_neg z, decide_eq_false fun h => z ((hm3 t).mpr ((hmk t).mp h))]; rfl
        rw [hiff]
        have np : w4.H p ≠ none := by rw [o4.h]; simp
        have dp : d ∉ [p] := by
          simp only [List.mem_singleton]
          rintro rfl
          rw [o3.h] at hp; cases hp
        have tp : A.tr ∉ [p] := by
          simp only [List.mem_singleton]
          intro z
          rw [← z, S3.tr.h] at hp; cases hp
        refine k_ld (fun hb => ?_) fun hb => ?_
        · walk_at "g5"
          refine k_ap o' (by rw [List.length_map, sizeLine_eq]; omega) fun w5 e5 o5 => ⟨E'.tf e5 (E3.free hp), ET.tt e5, ?_, e5.kp _ _ od dp, e5.kp _ _ ot tp⟩
          rw [fs, if_pos hb, List.map_append]
          exact o5
        · refine ⟨E', ET, ?_, od, ot⟩
          rw [fs, if_neg (by rw [hb]; simp), List.append_nil]
          exact o'
      · rintro w' ⟨E', ET, o', od, ot⟩
        rw [List.length_map, List.take_length] at o'
        refine q w' p E' (E3.free hp) ?_
        have : tms (mkd s k) = (tms s.tr).filter fun t => decide (t ∈ mks s k) := by
          show (s.tr.filter (ismk s k)).map (·.1) = (s.tr.map (·.1)).filter _
          rw [List.filter_map]; rfl
        rw [this]
        exact o'
end
theorem kvR_drop {tr : List (Int × Option Nat)} {t : Int} {r : Option Nat} (h : t ∉ tms tr) : dropK (kvR (tr ++ [(t, r)])) (.inl t) = kvR tr := by
  unfold dropK kvR
  rw [List.map_append, List.filter_append]
  have e1 : (tr.map fun p : Int × Option Nat => ((Sum.inl p.1 : Key), rsV p.2)).filter (fun kv => decide (kv.1 ≠ .inl t)) = tr.map fun p : Int × Option Nat => ((Sum.inl p.1 : Key), rsV p.2) := by
    rw [List.filter_eq_self]
    intro p hp
    obtain ⟨q, hq, rfl⟩ := List.mem_map.mp hp
    refine decide_eq_true fun z => h ?_
    injection z with z
    exact List.mem_map.mpr ⟨q, hq, z⟩
  rw [e1]
  simp
section
variable {v : Ev} {n N : Nat} {w : Wd} {A : SA} {s : Sv} {f : Int → List Nat} {Q : VK} {E : XK}
/-- another trail -/
theorem So.trl {C : Addr} {w' : Wd} {tr : List (Int × Option Nat)} (S : So C w A n s f) (e : Ex [A.tr, A.rs] w w') (o1 : Op w' A.tr (.lst ((tms tr).map V.int))) (o2 : Op w' A.rs (.dK (kvR tr))) : So C w' A n { s with tr := tr } f := by
  obtain ⟨cv, c1, dc⟩ := S.cl
  obtain ⟨sv, s1, ds⟩ := S.st
  obtain ⟨kv, u1, U⟩ := S.us
  have F := S.fields
  have ni : ∀ b, b ≠ A.tr → b ≠ A.rs → b ∉ [A.tr, A.rs] := fun b h1 h2 => by simp [h1, h2]
  refine ⟨S.bx.trans e fun b hb => .inr (S.fr b (by simp at hb ⊢; rcases hb with rfl | rfl <;> simp)), S.fr, S.og.ex e (ni _ F.2.1 F.2.2.1), ⟨cv, c1.ex e (ni _ S.ne1 F.2.2.2.2.2.1), dc.ex e⟩, o1, o2, ⟨sv, s1.ex e (ni _ S.ne2.symm F.2.2.2.2.2.2.2.1), ds.ex e⟩, ⟨kv, u1.ex e (ni _ F.2.2.2.2.2.2.2.2.2.1.symm S.ne4.symm), U.ex e fun a xs oa ha => ni _ (fun z => ha (by simp [z])) (op_ne oa S.rs (by simp))⟩, S.ne1, S.ne2, S.ne3, S.ne4⟩
theorem cut_spec {d : Int} {r : Option Nat} {P R : List (Int × Option Nat)} (S : So (v.cls c_Solver) w A n s f) (et : s.tr = P ++ (d, r) :: R) (hd : (tms s.tr).Nodup)
    (q : ∀ w', Ex [A.g, A.tr, A.rs] w w' → So (v.cls c_Solver) w' A n { s with tr := P, hd := P.length } f → Q .non w'.H) : spOf v D (N + 1) i_Solver_cut [.ref A.g, .int d] w.H Q E := by
  refine in_Solver_cut ?_
  unfold b_Solver_cut
  walk_at "g5"
  have nd : ∀ R', List.Sublist R' R → (tms (P ++ (d, r) :: R')).Nodup := fun R' h => by
    rw [et] at hd
    exact (tms_sub ((List.Sublist.refl P).append (h.cons_cons _))).nodup hd
  refine r_whl (fun m σ w' => ∃ a2 tr', σ = [some (.ref A.g), some (.int d), some a2] ∧ Ex [A.tr, A.rs] w w' ∧ So (v.cls c_Solver) w' A n { s with tr := tr' } f ∧ (((a2 = .non ∨ ∃ x, x ≠ d ∧ a2 = .int x) ∧ ∃ R', List.Sublist R' R ∧ tr' = P ++ (d, r) :: R') ∨ (a2 = .int d ∧ tr' = P)) ∧ m = tr'.length) s.tr.length
    ⟨.non, s.tr, rfl, (Ex.refl w).more (by simp) S.op2, S, .inl ⟨.inl rfl, R, List.Sublist.refl _, et⟩, rfl⟩ ?_
  rintro m σ w1 ⟨a2, tr', rfl, E1, S1, hs, hm⟩
  have F := S1.fields
  have step : ∀ (R' : List (Int × Option Nat)) (W : WX) (nx : St → Hp → Prop) (rt : VK), List.Sublist R' R → tr' = P ++ (d, r) :: R' → (Sms.cons (.asg (.nm 2) (.bm .pop (.fld c_Solver (.v 0) "trail") .nil)) (.cons (.ddel (.fld c_Solver (.v 0) "reasons") (.v 2)) .nil)).den (evAt v D N) W ⟨KWx (fun m σ w' => ∃ a2 tr', σ = [some (.ref A.g), some (.int d), some a2] ∧ Ex [A.tr, A.rs] w w' ∧ So (v.cls c_Solver) w' A n { s with tr := tr' } f ∧ (((a2 = .non ∨ ∃ x, x ≠ d ∧ a2 = .int x) ∧ ∃ R', List.Sublist R' R ∧ tr' = P ++ (d, r) :: R') ∨ (a2 = .int d ∧ tr' = P)) ∧ m = tr'.length) m, rt, nx, KWx (fun m σ w' => ∃ a2 tr', σ = [some (.ref A.g), some (.int d), some a2] ∧ Ex [A.tr, A.rs] w w' ∧ So (v.cls c_Solver) w' A n { s with tr := tr' } f ∧ (((a2 = .non ∨ ∃ x, x ≠ d ∧ a2 = .int x) ∧ ∃ R', List.Sublist R' R ∧ tr' = P ++ (d, r) :: R') ∨ (a2 = .int d ∧ tr' = P)) ∧ m = tr'.length) m⟩ [some (.ref A.g), some (.int d), some a2] w1.H := by
    intro R' W nx rt hsub e
    have ndR := nd R' hsub
    obtain ⟨tr2, t, r2, e2, hcase⟩ : ∃ tr2 t r2, tr' = tr2 ++ [(t, r2)] ∧ ((t = d ∧ tr2 = P) ∨ (t ≠ d ∧ ∃ R2, List.Sublist R2 R ∧ tr2 = P ++ (d, r) :: R2)) := by
      rcases List.eq_nil_or_concat R' with rfl | ⟨R2, y, rfl⟩
      · exact ⟨P, d, r, e, .inl ⟨rfl, rfl⟩⟩
      · obtain ⟨t, r2⟩ := y
        rw [List.concat_eq_append] at e hsub ndR
        refine ⟨P ++ (d, r) :: R2, t, r2, by rw [e]; simp, .inr ⟨?_, R2, (List.sublist_append_left _ _).trans hsub, rfl⟩⟩
        rintro rfl
        have : (tms (P ++ (t, r) :: (R2 ++ [(t, r2)]))) = tms P ++ t :: (tms R2 ++ [t]) := by simp [tms]
        rw [this] at ndR
        have := (List.nodup_append.mp ndR).2.1
        exact (List.nodup_cons.mp this).1 (by simp)
    have hnt : t ∉ tms tr2 := by
      rw [← e, e2, tms_app] at ndR
      intro z
      exact (List.nodup_append.mp ndR).2.2 t z t (by simp [tms]) rfl
    subst e2
    have ot := S1.tr
    have oR := S1.rs
    dsimp only at ot oR
    rw [tms_app, List.map_append] at ot
    walk_at "g5"
    refine k_flH S1.og.h rfl ?_
    walk_at "g5"
    refine k_m1 ot.h rfl ?_
    walk_at "g5"
    refine m_pop (x := .int t) ot fun w2 e2 o2 => ?_
    have og2 := S1.og.ex e2 (by simpa using F.2.1)
    have or2 := oR.ex e2 (by simpa using F.2.2.2.2.2.2.1.symm)
    walk_at "g5"
    refine k_flH og2.h rfl ?_
    walk_at "g5"
    refine k_dl2 (k := .inl t) or2 rfl (by rw [kvR_some]; exact decide_eq_true (by simp [tms])) fun w3 e3 o3 => ?_
    rw [kvR_drop hnt] at o3
    have o23 := o2.ex e3 (by simpa using F.2.2.2.2.2.2.1)
    have E12 : Ex [A.tr, A.rs] w1 w3 := ((Ex.refl w1).more (by simp) S1.op2 |>.trans e2 (by simp)).trans e3 (by simp)
    have S3 := S1.trl E12 o23 o3
    walk_at "g5"
    have hm' : m = tr2.length + 1 := by rw [hm, List.length_append]; rfl
    refine k_wx tr2.length (by omega) ⟨_, tr2, rfl, E1.tt E12, S3, ?_, rfl⟩
    rcases hcase with ⟨rfl, rfl⟩ | ⟨h1, R2, h2, h3⟩
    · exact .inr ⟨rfl, rfl⟩
    · exact .inl ⟨.inr ⟨t, h1, rfl⟩, R2, h2, h3⟩
  walk_at "g5"
  rcases hs with ⟨ha, R', hsub, e⟩ | ⟨rfl, e⟩
  · rcases ha with rfl | ⟨x, hx, rfl⟩
    · refine c_neD (d := .none) (e := .int d) Dv.non.dp (Dv.int d).dp rfl rfl ?_
      exact k_wht (step R' _ _ _ hsub e)
    · refine c_ne ?_
      rw [decide_eq_false hx]
      exact k_wht (step R' _ _ _ hsub e)
  · refine c_ne ?_
    rw [decide_eq_true rfl]
    refine k_whf ?_
    subst e
    walk_at "g5"
    refine k_flH S1.og.h rfl ?_
    walk_at "g5"
    refine f_lenO S1.tr.h ?_
    rw [List.length_map, List.length_map]
    walk_at "g5"
    refine k_ft S1.og (by simp) (gs := sfs A n tr'.length) rfl fun w2 e2 o2 => ?_
    have S2 := S1.hd (h := tr'.length) e2 o2 rfl
    walk_at "g5"
    exact q w2 ((E1.more (by simp) (by simp; exact ⟨S.og.n, S.tr.n, S.rs.n⟩)).trans e2 (by simp)) S2
end
/-! ### a comprehension over a list from its end on -/
theorem k_lc_rvL {σ : St} {Q : VK} {K : PySem.W.Frag} {a : Addr} {xs : List V} {g : TG} {tt : TT} {te : TE} {vs : List Nat} {w : Wd} (h : ∀ w1 D, Ex [] w w1 → w.H D = none → Op w1 D (.lst []) → ∃ Inv : Nat → Wd → Prop, Inv 0 w1 ∧ (∀ i w', Inv i w' → SqL K w'.H a xs) ∧
    (∀ i x w', i < xs.length → xs[xs.length - 1 - i]? = some x → Inv i w' → g x (wipe σ vs) w'.H (KLb tt te vs σ D (Inv (i + 1)))) ∧ ∀ w', Inv xs.length w' → Q (.ref D) w'.H) : KLc g tt te vs σ Q (Itv K a xs.length) w.H := fun D hD => by
  obtain ⟨Inv, h0, hk, hs, hd⟩ := h (w.put D (.lst [])) D (ex_new hD) hD (op_new hD)
  refine ⟨fun i m H => i ≤ xs.length ∧ m = xs.length - i ∧ KIw (Inv i) H, ⟨xs.length, by omega, by omega, _, rfl, h0⟩, ?_⟩
  rintro i m H ⟨hi, hm, w', rfl, p⟩
  rcases Nat.lt_or_ge i xs.length with z | z
  · refine .inr ⟨⟨z, xs, xs[xs.length - 1 - i], hk i w' p, List.getElem?_eq_getElem _⟩, KIw (Inv (i + 1)), fun H' h => ⟨xs.length - (i + 1), by omega, by omega, rfl, h⟩, ?_⟩
    rintro x H' ⟨rfl, hx⟩
    exact hs i x w' z (hx xs (hk i w' p)) p
  · have : i = xs.length := by omega
    subst this
    exact .inl ⟨z, hd w' p⟩
theorem kvR_mem {tr : List (Int × Option Nat)} {t : Int} {r : Option Nat} (hd : (tms tr).Nodup) (h : (t, r) ∈ tr) : valV (kvR tr) (.inl t) = some (rsV r) := by
  rw [kvR_val]
  have : tr.lookup t = some r := by
    induction tr with
    | nil => cases h
    | cons a l ih =>
      obtain ⟨x, z⟩ := a
      have hn := List.nodup_cons.mp hd
      rw [List.lookup_cons]
      rcases List.mem_cons.mp h with e | h2
      · cases e; simp
      · have : (t == x) = false := by
          simp only [beq_eq_false_iff_ne]
          rintro rfl
          exact hn.1 (List.mem_map.mpr ⟨_, h2, rfl⟩)
        rw [this]
        exact ih hn.2 h2
  rw [this]; rfl
section
variable {w w' : Wd} {A : SA} {n : Nat} {s : Sv} {f : Int → List Nat} {C : Addr}
theorem So.stp (S : So C w A n s f) {sv : List V} {x : V} {p : List Int × List Nat} (e : Ex [A.st] w w') (ds : Dvs w sv (s.st.map sd)) (o : Op w' A.st (.lst (sv ++ [x]))) (dx : Dv w x (sd p)) : So C w' A n { s with st := s.st ++ [p] } f := by
  obtain ⟨cv, c1, dc⟩ := S.cl
  obtain ⟨sv0, s1, _⟩ := S.st
  obtain ⟨kv, u1, U⟩ := S.us
  have F := S.fields
  have ni : ∀ b, b ≠ A.st → b ∉ [A.st] := fun b h1 => by simpa using h1
  refine ⟨S.bx.trans e fun b hb => .inr (S.fr b (by simp at hb ⊢; simp [hb])), S.fr, S.og.ex e (ni _ F.2.2.2.1), ⟨cv, c1.ex e (ni _ S.ne3), dc.ex e⟩, S.tr.ex e (ni _ S.ne2), S.rs.ex e (ni _ F.2.2.2.2.2.2.2.1.symm), ⟨_, o, ?_⟩, ⟨kv, u1.ex e (ni _ F.2.2.2.2.2.2.2.2.2.2.symm), U.ex e fun a xs oa ha => ni _ fun z => ha (by simp [z])⟩, S.ne1, S.ne2, S.ne3, S.ne4⟩
  rw [List.map_append]
  exact (ds.ex e).app (.cons (dx.ex e) .nil)
theorem So.cla (S : So C w A n s f) {cv : List V} {x : V} {c : List Int} (e : Ex [A.cl] w w') (dc : Dvs w cv (s.cls.map ids)) (o : Op w' A.cl (.lst (cv ++ [x]))) (dx : Dv w x (ids c)) : So C w' A n { s with cls := s.cls ++ [c] } f := by
  obtain ⟨sv, s1, ds⟩ := S.st
  obtain ⟨kv, u1, U⟩ := S.us
  have F := S.fields
  have ni : ∀ b, b ≠ A.cl → b ∉ [A.cl] := fun b h1 => by simpa using h1
  refine ⟨S.bx.trans e fun b hb => .inr (S.fr b (by simp at hb ⊢; simp [hb])), S.fr, S.og.ex e (ni _ F.1), ⟨_, o, ?_⟩, S.tr.ex e (ni _ S.ne1.symm), S.rs.ex e (ni _ F.2.2.2.2.2.1.symm), ⟨sv, s1.ex e (ni _ S.ne3.symm), ds.ex e⟩, ⟨kv, u1.ex e (ni _ F.2.2.2.2.2.2.2.2.1.symm), U.ex e fun a xs oa ha => ni _ fun z => ha (by simp [z])⟩, S.ne1, S.ne2, S.ne3, S.ne4⟩
  rw [List.map_append]
  exact (dc.ex e).app (.cons (dx.ex e) .nil)
theorem usr_snoc (cls : List (List Int)) (c : List Int) : addU (usr cls) c cls.length = usr (cls ++ [c]) := by
  funext t
  unfold addU usr
  rw [List.length_append, List.length_singleton, List.range_succ, List.filter_append]
  have e1 : (List.range cls.length).filter (fun k => decide (t ∈ (cls ++ [c]).getD k [])) = (List.range cls.length).filter fun k => decide (t ∈ cls.getD k []) := by
    refine List.filter_congr fun k hk => ?_
    have hk := List.mem_range.mp hk
    rw [List.getD_eq_getElem?_getD, List.getD_eq_getElem?_getD, List.getElem?_append_left hk]
  have e2 : (cls ++ [c]).getD cls.length [] = c := by rw [List.getD_eq_getElem?_getD, List.getElem?_append_right (Nat.le_refl _), Nat.sub_self]; rfl
  rw [e1, List.filter_cons, e2]
  by_cases h : t ∈ c
  · rw [if_pos h, decide_eq_true h]; simp
  · rw [if_neg h, decide_eq_false h]; simp
theorem usr_len (cls : List (List Int)) (t : Int) : (usr cls t).length ≤ cls.length := Nat.le_trans (List.length_filter_le _ _) (by rw [List.length_range]; exact Nat.le_refl _)
theorem dcs_snoc {m : List (Int × Option Nat)} {i : Nat} {t : Int} {r : Option Nat} (h : m[i]? = some (t, r)) : dcs (m.take (i + 1)) = dcs (m.take i) ++ (if r = none then [t] else []) := by
  rw [List.take_add_one, h]
  unfold dcs
  rw [List.filter_append, List.map_append]
  cases r <;> rfl
theorem hns_snoc {m : List (Int × Option Nat)} {i : Nat} {t : Int} {r : Option Nat} (h : m[i]? = some (t, r)) : hns (m.take (i + 1)) = hns (m.take i) ++ r.toList := by
  rw [List.take_add_one, h]
  unfold hns
  rw [List.filterMap_append]
  cases r <;> rfl
end
section
variable {v : Ev} {n N : Nat} {w : Wd} {A : SA} {s : Sv} {Q : VK} {E : XK}
theorem learn_spec {k : Nat} (hn : n ≤ 1000) (S : So (v.cls c_Solver) w A n s) (O : SvOk n s) (hk : k < s.cls.length) (hcl : s.cls.length < 50000) (hst : s.st.length < 50000)
    (q : ∀ w' T, Ex T w w' → So (v.cls c_Solver) w' A n (lrnF s k).2 → Q (.bl (lrnF s k).1) w'.H) : spOf v D (N + 2) i_Solver_learn [.ref A.g, .int (k : Nat)] w.H Q E := by
  have L9 := O.len9 hn
  have hln := O.len
  have ndt := nd_of_map O.nd
  have mem_m : ∀ {p}, p ∈ mkd s k → p ∈ s.tr := fun h => (List.mem_filter.mp h).1
  have mlen : (mkd s k).length ≤ s.tr.length := List.length_filter_le _ _
  refine in_Solver_learn ?_
  unfold b_Solver_learn
  walk_at "g5"
  refine k_meH S.og.h rfl ?_
  walk_at "g5"
  refine marked_spec hn S O hk fun w1 p1 e1 hp1 o1 => ?_
  have S1 := S.ex e1
  walk_at "g5"
  refine k_ls o1.h ?_
  generalize hm : mkd s k = m at o1 mem_m mlen
  have at_m : ∀ {i : Nat} {x : V}, ((tms m).map V.int)[i]? = some x → ∃ t r, m[i]? = some (t, r) ∧ x = .int t ∧ valV (kvR s.tr) (.inl t) = some (rsV r) := by
    intro i x hx
    unfold tms at hx
    rw [List.map_map, List.getElem?_map] at hx
    obtain ⟨⟨t, r⟩, h1, rfl⟩ := Option.map_eq_some_iff.mp hx
    exact ⟨t, r, h1, rfl, kvR_mem ndt (mem_m (List.mem_of_getElem? h1))⟩
  have lt_m : ∀ {i : Nat} {y}, m[i]? = some y → i < 3000 := by
    intro i y h
    rcases Nat.lt_or_ge i m.length with z | z
    · omega
    · rw [List.getElem?_eq_none z] at h; cases h
  have dcl : ∀ i, (dcs (m.take i)).length ≤ i := fun i => by
    unfold dcs
    rw [List.length_map]
    exact Nat.le_trans (List.length_filter_le _ _) (by rw [List.length_take]; omega)
  have hnl : ∀ i, (hns (m.take i)).length ≤ i := fun i => Nat.le_trans (List.length_filterMap_le _ _) (by rw [List.length_take]; omega)
  have tml : ((tms m).map V.int).length = m.length := by rw [List.length_map, List.length_map]
  refine k_lc_lst (xs := (tms m).map V.int) fun w2 p2 e2 hp2 o2 => ⟨fun i w' => Ex [] w1 w' ∧ Op w' p2 (.lst ((dcs (m.take i)).map V.int)), ⟨e2, by simpa [dcs] using o2⟩, fun i w' h => sqL (h.1.kp _ _ o1.h (by simp)), ?_, ?_⟩
  · rintro i x w' hx ⟨E', o'⟩
    obtain ⟨t, r, hi, rfl, hv⟩ := at_m hx
    have hl := lt_m hi
    have hd := dcl i
    have S' := S1.ex E'
    refine g_nm ?_
    dsimp only [wipe, List.set_cons_zero, List.set_cons_succ]
    refine k_lb1 rfl ?_
    walk_at "g5"
    refine k_flH S'.og.h rfl ?_
    walk_at "g5"
    refine i_dK (k := .inl t) S'.rs.h rfl hv ?_
    have ds := dcs_snoc hi
    cases r with
    | none =>
      simp only [rsV]
      walk_at "g5"
      refine k_ld (fun _ => ?_) fun h => by simp at h
      walk_at "g5"
      refine k_ap o' (by rw [List.length_map, sizeLine_eq]; omega) fun w3 e3 o3 => ⟨E'.tf e3 hp2, ?_⟩
      rw [ds, if_pos rfl, List.map_append]
      exact o3
    | some j =>
      simp only [rsV]
      walk_at "g5"
      refine k_ld (fun h => by simp at h) fun _ => ⟨E', ?_⟩
      rw [ds, if_neg (by simp), List.append_nil]
      exact o'
  rintro w2 ⟨E2, o2⟩
  rw [tml, List.take_length] at o2
  have S2 := S1.ex E2
  have o12 := o1.ex E2 (by simp)
  walk_at "g5"
  refine k_ls o12.h ?_
  refine k_lc_lst (xs := (tms m).map V.int) fun w3 p3 e3 hp3 o3 => ⟨fun i w' => Ex [] w2 w' ∧ Op w' p3 (.lst ((hns (m.take i)).map fun k : Nat => V.int (k : Int))), ⟨e3, by simpa [hns] using o3⟩, fun i w' h => sqL (h.1.kp _ _ o12.h (by simp)), ?_, ?_⟩
  · rintro i x w' hx ⟨E', o'⟩
    obtain ⟨t, r, hi, rfl, hv⟩ := at_m hx
    have hl := lt_m hi
    have hd := hnl i
    have S' := S2.ex E'
    refine g_nm ?_
    dsimp only [wipe, List.set_cons_zero, List.set_cons_succ]
    refine k_lb1 rfl ?_
    walk_at "g5"
    refine k_flH S'.og.h rfl ?_
    walk_at "g5"
    refine i_dK (k := .inl t) S'.rs.h rfl hv ?_
    have ds := hns_snoc hi
    cases r with
    | none =>
      simp only [rsV]
      walk_at "g5"
      refine k_ld (fun h => by simp at h) fun _ => ⟨E', ?_⟩
      dsimp only [Option.toList] at ds
      rw [ds, List.append_nil]
      exact o'
    | some j =>
      simp only [rsV]
      walk_at "g5"
      refine k_ld (fun _ => ?_) fun h => by simp at h
      walk_at "g5"
      refine k_flH S'.og.h rfl ?_
      walk_at "g5"
      refine i_dK (k := .inl t) S'.rs.h rfl hv ?_
      refine k_ap o' (by rw [List.length_map, sizeLine_eq]; omega) fun w4 e4 o4 => ⟨E'.tf e4 hp3, ?_⟩
      dsimp only [Option.toList] at ds
      rw [ds, List.map_append]
      exact o4
  rintro w3 ⟨E3, o3⟩
  rw [tml, List.take_length] at o3
  have S3 := S2.ex E3
  have o23 := o2.ex E3 (by simp)
  have dlen : (dcs m).length ≤ 1000 := by have := dcl m.length; rw [List.take_length] at this; omega
  have hlen : (hns m).length ≤ 1000 := by have := hnl m.length; rw [List.take_length] at this; omega
  walk_at "g5"
  refine k_rvL (sqL o23.h) ?_
  refine k_lc_rvL fun w4 p4 e4 hp4 o4 => ⟨fun i w' => Ex [] w3 w' ∧ Op w' p4 (.lst ((((dcs m).map (-·)).reverse.take i).map V.int)), ⟨e4, by simpa using o4⟩, fun i w' h => sqL (h.1.kp _ _ o23.h (by simp)), ?_, ?_⟩
  · rintro i x w' hi hx ⟨E', o'⟩
    rw [List.length_map] at hi hx
    rw [List.getElem?_map] at hx
    obtain ⟨t, ht, rfl⟩ := Option.map_eq_some_iff.mp hx
    have tk : (((dcs m).map (-·)).reverse.take (i + 1)) = ((dcs m).map (-·)).reverse.take i ++ [-t] := by
      rw [List.take_add_one, List.getElem?_reverse (by rw [List.length_map]; exact hi), List.length_map, List.getElem?_map, ht]; rfl
    refine g_nm ?_
    dsimp only [wipe, List.set_cons_zero, List.set_cons_succ]
    refine k_lb0 rfl ?_
    walk_at "g5"
    refine k_ap o' (by rw [List.length_map, List.length_take, sizeLine_eq]; omega) fun w5 e5 o5 => ⟨E'.tf e5 hp4, ?_⟩
    rw [tk, List.map_append]
    exact o5
  rintro w4 ⟨E4, o4⟩
  have hp4x : w3.H p4 = none := hp4
  have hrl : ((dcs m).map V.int).length = ((dcs m).map (-·)).reverse.length := by simp
  rw [hrl, List.take_length] at o4
  have hL : ((dcs m).map (-·)).reverse = lcl s k := by
    show _ = ((dcs (mkd s k)).map (-·)).reverse
    rw [hm]
  rw [hL] at o4
  obtain ⟨w4', h4', E4', dcl4⟩ := seal_lst o4 (Dvs.ints (lcl s k))
  have E44 : Ex [] w3 w4' := E4.tf E4' hp4x
  rw [← h4']
  have S4 := S3.ex E44
  have o34 := o3.ex E44 (by simp)
  have o24 := o23.ex E44 (by simp)
  have lnd := lcl_nd (k := k) O
  have llen : (lcl s k).length ≤ 1000 := by rw [← hL]; simp; exact dlen
  obtain ⟨sv, st4, dst4⟩ := S4.st
  have svl : sv.length = s.st.length := by rw [dst4.length, List.length_map]
  walk_at "g5"
  refine k_flH S4.og.h rfl ?_
  walk_at "g5"
  refine k_m1 st4.h rfl ?_
  walk_at "g5"
  refine f_tupL dcl4 fun w5 x5 e5 d5 => ?_
  walk_at "g5"
  refine k_lstO (by simp) fun w6 p6 e6 hp6 o6 => ?_
  refine o_addl ((o34.ex e5 (by simp)).ex e6 (by simp)).h o6.h (by simp [sizeLine_eq]; omega) ?_
  have hh : (hns m).map (fun k : Nat => V.int (k : Int)) ++ [V.int (k : Int)] = (((hns m ++ [k]).map fun k : Nat => (k : Int))).map V.int := by simp
  rw [hh]
  refine new_lst (Dvs.ints _) fun w7 x7 e7 d7 => ?_
  walk_at "g5"
  refine k_tup (by simp) (.cons ((d5.ex e6).ex e7) (.cons d7 .nil)) fun w8 x8 e8 d8 => ?_
  have e48 : Ex [] w4' w8 := ((e5.t0 e6).t0 e7).t0 e8
  have S8 := S4.ex e48
  have hsd : PyData.tuple [.tuple ((lcl s k).map .int), .list (((hns m ++ [k]).map fun k : Nat => (k : Int)).map .int)] = sd (lcl s k, hns m ++ [k]) := by
    show _ = PyData.tuple [.tuple ((lcl s k).map .int), .list ((hns m ++ [k]).map fun k : Nat => PyData.int (k : Int))]
    rw [List.map_map]; rfl
  rw [hsd] at d8
  walk_at "g5"
  refine m_app (st4.ex e48 (by simp)) (by rw [svl, sizeLine_eq]; omega) fun w9 e9 o9 => ?_
  have S9 := S8.stp e9 (dst4.ex e48) o9 d8
  have stp2 : p2 ≠ A.st := by
    obtain ⟨_, st1, _⟩ := S1.st
    exact (st1.ne hp2).symm
  have o29 := (o24.ex e48 (by simp)).ex e9 (by simpa using stp2)
  have d49 := (dcl4.ex e48).ex e9
  have E08 : Ex [] w w8 := ((((e1.t0 E2).t0 E3).t0 E44)).t0 e48
  have e9' : Ex [A.st] w w9 := (E08.more (by simp) (by obtain ⟨_, st0, _⟩ := S.st; simpa using st0.n)).tt e9
  walk_at "g5"
  refine f_lenO o29.h ?_
  rw [List.length_map]
  walk_at "g5"
  refine kif_d (fun h => ?_) fun h => ?_
  · have hz : dsF s k = [] := by
      show dcs (mkd s k) = []
      rw [hm]
      exact List.length_eq_zero_iff.mp (by omega)
    have hlz : lcl s k = [] := by unfold lcl; rw [hz]; rfl
    rw [lrnF_nil hz, hm] at q
    rw [hlz] at S9
    walk_at "g5"
    exact q w9 _ e9' S9
  have hne : dsF s k ≠ [] := by
    intro z
    have z : dcs (mkd s k) = [] := z
    rw [hm] at z
    rw [z] at h
    exact h rfl
  obtain ⟨d, ds, R, ed, eR, hb⟩ := ds_last O hne
  rw [lrnF_snoc ed, hm] at q
  have edm : dcs m = ds ++ [d] := by rw [← ed, ← hm]
  have el : lcl s k = -d :: (ds.map (-·)).reverse := by
    show ((dcs (mkd s k)).map (-·)).reverse = _
    rw [hm, edm, List.map_append, List.reverse_append]; rfl
  have dnot : -d ∉ tms (cutF s.tr d) := by
    intro z
    have h1 : d ∈ tms s.tr := List.mem_map.mpr ⟨_, dsF_mem (k := k) (by rw [ed]; simp), rfl⟩
    exact O.neg h1 (by rw [eR, tms_app]; exact List.mem_append.mpr (.inl z))
  have Pl : (cutF s.tr d).length < 3000 := by
    have := congrArg List.length eR
    rw [List.length_append, List.length_cons] at this
    omega
  rw [edm] at o29
  generalize cutF s.tr d = P at *
  walk_at "g5"
  refine k_meH S9.og.h rfl ?_
  walk_at "g5"
  refine i_neg o29.h (by simp) (y := .int d) (by simp) ?_
  walk_at "g5"
  refine cut_spec S9 eR ndt fun w10 e10 S10 => ?_
  obtain ⟨T10, E10⟩ := Ex.any e9' e10
  have d10 := d49.ex e10
  obtain ⟨cv, c10, dc10⟩ := S10.cl
  have cvl : cv.length = s.cls.length := by rw [dc10.length, List.length_map]
  walk_at "g5"
  refine k_flH S10.og.h rfl ?_
  walk_at "g5"
  refine k_m1 c10.h rfl ?_
  walk_at "g5"
  refine m_app c10 (by rw [cvl, sizeLine_eq]; omega) fun w11 e11 o11 => ?_
  have S11 := S10.cla e11 dc10 o11 d10
  have d11 := d10.ex e11
  obtain ⟨T11, E11⟩ := Ex.any E10 e11
  walk_at "g5"
  refine k_meH S11.og.h rfl ?_
  walk_at "g5"
  refine k_flH S11.og.h rfl ?_
  walk_at "g5"
  refine f_lenO o11.h ?_
  walk_at "g5"
  have e1n : (((cv ++ [V.ref p4]).length : Nat) : Int) - 1 = ((s.cls.length : Nat) : Int) := by rw [List.length_append, cvl]; simp
  rw [e1n]
  have gl : (s.cls ++ [lcl s k]).getD s.cls.length [] = lcl s k := by rw [List.getD_eq_getElem?_getD, List.getElem?_append_right (Nat.le_refl _), Nat.sub_self]; rfl
  refine note_spec (k := s.cls.length) S11 (by simp) (by dsimp only; rw [gl]; exact lnd) hn (fun t => by have := usr_len s.cls t; omega) fun w12 T12 e12 S12 => ?_
  dsimp only at S12
  rw [gl, usr_snoc] at S12
  obtain ⟨T13, E12⟩ := Ex.any E11 e12
  obtain ⟨cv2, c12, dc12⟩ := S12.cl
  have cvl2 : cv2.length = s.cls.length + 1 := by rw [dc12.length, List.length_map, List.length_append]; rfl
  walk_at "g5"
  refine k_meH S12.og.h rfl ?_
  walk_at "g5"
  refine i_L (d11.ex e12) (by decide) (d := .int (-d)) (by rw [el]; rfl) fun y dy => ?_
  obtain rfl := dy.of_int
  walk_at "g5"
  refine k_flH S12.og.h rfl ?_
  walk_at "g5"
  refine f_lenO c12.h ?_
  walk_at "g5"
  rw [cvl2, show (((s.cls.length + 1 : Nat) : Int)) - 1 = ((s.cls.length : Nat) : Int) by omega]
  refine add_spec (r := some s.cls.length) rfl S12 dnot Pl fun w13 e13 S13 => ?_
  obtain ⟨T14, E13⟩ := Ex.any E12 e13
  walk_at "g5"
  have e0 : (lcl s k).getD 0 0 = -d := by rw [el]; rfl
  exact q w13 T14 E13 S13
end
theorem freeV_at {tr : List (Int × Option Nat)} {n i : Nat} (hi : i < n) (h0 : ∀ j, j < i → ¬ ((((j + 1 : Nat)) : Int) ∉ tms tr ∧ -((j + 1 : Nat) : Int) ∉ tms tr)) (h1 : (((i + 1 : Nat)) : Int) ∉ tms tr ∧ -((i + 1 : Nat) : Int) ∉ tms tr) : freeV tr n = some (i + 1) := by
  unfold freeV
  rw [List.find?_eq_some_iff_append]
  refine ⟨decide_eq_true h1, (List.range i).map (· + 1), ((List.range n).drop (i + 1)).map (· + 1), ?_, fun a ha => ?_⟩
  · have : List.range n = List.range i ++ i :: (List.range n).drop (i + 1) := by
      conv => lhs; rw [← List.take_append_drop i (List.range n)]
      rw [List.take_range, Nat.min_eq_left (by omega), List.drop_eq_getElem_cons (by rw [List.length_range]; omega), List.getElem_range]
    conv => lhs; rw [this]
    rw [List.map_append]; rfl
  · obtain ⟨j, hj, rfl⟩ := List.mem_map.mp ha
    have := h0 j (List.mem_range.mp hj)
    simp only [Bool.not_eq_true', decide_eq_false_iff_not]
    exact this
theorem freeV_no {tr : List (Int × Option Nat)} {n : Nat} (h0 : ∀ j, j < n → ¬ ((((j + 1 : Nat)) : Int) ∉ tms tr ∧ -((j + 1 : Nat) : Int) ∉ tms tr)) : freeV tr n = none := by
  unfold freeV
  rw [List.find?_eq_none]
  intro a ha
  obtain ⟨j, hj, rfl⟩ := List.mem_map.mp ha
  have := h0 j (List.mem_range.mp hj)
  simp only [decide_eq_true_eq]
  exact this
section
variable {v : Ev} {n N : Nat} {w : Wd} {A : SA} {s : Sv} {Q : VK} {E : XK}
theorem decide_spec (hn : n ≤ 1000) (S : So (v.cls c_Solver) w A n s) (O : SvOk n s)
    (q : (∀ i, freeV s.tr n = some i → ∀ w', Ex [A.tr, A.rs] w w' → So (v.cls c_Solver) w' A n { s with tr := s.tr ++ [(-(i : Int), none)] } → Q (.bl true) w'.H) ∧ (freeV s.tr n = none → Q (.bl false) w.H)) : spOf v D (N + 2) i_Solver_decide [.ref A.g] w.H Q E := by
  have hln := O.len
  refine in_Solver_decide ?_
  unfold b_Solver_decide
  walk_at "g5"
  refine k_flH S.og.h rfl ?_
  walk_at "g5"
  refine k_r2b (by omega) ?_
  refine k_for_rng (fun i σ w' => ∃ a1, σ = [some (.ref A.g), a1] ∧ w' = w ∧ ∀ j, j < i → ¬ ((((j + 1 : Nat)) : Int) ∉ tms s.tr ∧ -((j + 1 : Nat) : Int) ∉ tms s.tr)) ⟨_, rfl, rfl, fun j hj => by omega⟩ ?_ ?_
  · rintro i σ w' hi ⟨a1, rfl, rfl, h0⟩
    have hi : i < n := by omega
    rw [show (1 : Int) + (i : Int) = ((i + 1 : Nat) : Int) by omega]
    have next : ¬ ((((i + 1 : Nat)) : Int) ∉ tms s.tr ∧ -((i + 1 : Nat) : Int) ∉ tms s.tr) → ∀ j, j < i + 1 → ¬ ((((j + 1 : Nat)) : Int) ∉ tms s.tr ∧ -((j + 1 : Nat) : Int) ∉ tms s.tr) := fun h j hj => by
      rcases Nat.lt_or_ge j i with z | z
      · exact h0 j z
      · rw [show j = i by omega]; exact h
    walk_at "g5"
    refine k_flH S.og.h rfl ?_
    refine c_nin_dK (k := .inl ((i + 1 : Nat) : Int)) S.rs.h rfl ?_
    rw [kvR_some]
    refine k_ta (fun h => ?_) fun h => ?_
    · have h1 : ((i + 1 : Nat) : Int) ∉ tms s.tr := by simpa using h
      walk_at "g5"
      refine k_flH S.og.h rfl ?_
      refine c_nin_dK (k := .inl (-((i + 1 : Nat) : Int))) S.rs.h rfl ?_
      rw [kvR_some]
      refine kif_n (fun h2 => ?_) fun h2 => ?_
      · have fv := freeV_at hi h0 ⟨h1, h2⟩
        walk_at "g5"
        refine k_meH S.og.h rfl ?_
        walk_at "g5"
        refine add_spec (r := none) rfl S h2 (by omega) fun w2 e2 S2 => ?_
        walk_at "g5"
        exact q.1 _ fv w2 e2 S2
      · walk_at "g5"
        exact k_is ⟨_, rfl, rfl, next fun z => z.2 h2⟩
    · have h1 : ((i + 1 : Nat) : Int) ∈ tms s.tr := by simpa using h
      walk_at "g5"
      exact k_is ⟨_, rfl, rfl, next fun z => z.1 h1⟩
  · rintro σ w' ⟨a1, rfl, rfl, h0⟩
    walk_at "g5"
    exact q.2 (freeV_no fun j hj => h0 j (by omega))
theorem assign_spec (hn : n ≤ 1000) (S : So (v.cls c_Solver) w A n s)
    (q : ∀ w' p, Ex [] w w' → w.H p = none → Op w' p (.lst ((asgF s.tr n).map V.int)) → Q (.ref p) w'.H) : spOf v D (N + 1) i_Solver_assignment [.ref A.g] w.H Q E := by
  refine in_Solver_assignment ?_
  unfold b_Solver_assignment
  walk_at "g5"
  refine k_lstO (by simp) fun w1 p e1 hp o1 => ?_
  have S1 := S.ex e1
  walk_at "g5"
  refine k_flH S1.og.h rfl ?_
  walk_at "g5"
  refine k_r2b (by omega) ?_
  refine k_for_rng (fun i σ w' => ∃ a2, σ = [some (.ref A.g), some (.ref p), a2] ∧ Ex [] w w' ∧ Op w' p (.lst ((asgF s.tr i).map V.int))) ⟨_, rfl, e1, by simpa [asgF] using o1⟩ ?_ ?_
  · rintro i σ w' hi ⟨a2, rfl, E', o'⟩
    have hi : i < n := by omega
    have S' := S.ex E'
    have nx : asgF s.tr (i + 1) = asgF s.tr i ++ [if ((i : Int) + 1) ∈ tms s.tr then (1 : Int) else 0] := by unfold asgF; rw [List.range_succ, List.map_append]; rfl
    have al : (asgF s.tr i).length = i := by simp [asgF]
    rw [show (1 : Int) + (i : Int) = (i : Int) + 1 by omega]
    walk_at "g5"
    refine k_flH S'.og.h rfl ?_
    refine c_in_dK (k := .inl ((i : Int) + 1)) S'.rs.h rfl ?_
    rw [kvR_some]
    refine kif_d (fun h => ?_) fun h => ?_
    · walk_at "g5"
      refine k_m1 o'.h rfl ?_
      walk_at "g5"
      refine m_app o' (by rw [List.length_map, al, sizeLine_eq]; omega) fun w2 e2 o2 => ?_
      walk_at "g5"
      refine k_is ⟨_, rfl, E'.tf e2 hp, ?_⟩
      rw [nx, if_pos h, List.map_append]
      exact o2
    · walk_at "g5"
      refine k_m1 o'.h rfl ?_
      walk_at "g5"
      refine m_app o' (by rw [List.length_map, al, sizeLine_eq]; omega) fun w2 e2 o2 => ?_
      walk_at "g5"
      refine k_is ⟨_, rfl, E'.tf e2 hp, ?_⟩
      rw [nx, if_neg h, List.map_append]
      exact o2
  · rintro σ w' ⟨a2, rfl, E', o'⟩
    walk_at "g5"
    have : ((n : Int) + 1 - 1).toNat = n := by omega
    rw [this] at o'
    exact q w' p E' hp o'
theorem dst_snoc : ∀ (c r : List Int) (t : Int), dst (c ++ [t]) r = if t ∈ dst c r then dst c r else dst c r ++ [t]
  | [], r, t => rfl
  | x :: c, r, t => dst_snoc c _ t
theorem dst_len : ∀ (c r : List Int), (dst c r).length ≤ r.length + c.length
  | [], r => by simp [dst]
  | x :: c, r => by
    have h := dst_len c (if x ∈ r then r else r ++ [x])
    have h2 : (if x ∈ r then r else r ++ [x]).length ≤ r.length + 1 := by split <;> simp
    show (dst c (if x ∈ r then r else r ++ [x])).length ≤ _
    rw [List.length_cons]
    omega
theorem distinct_spec {x : V} {c : List Int} (dx : Dv w x (ct c)) (hl : c.length < 3000)
    (q : ∀ w' p, Ex [] w w' → w.H p = none → Op w' p (.lst ((dst c []).map V.int)) → Q (.ref p) w'.H) : spOf v D (N + 1) i_distinct [x] w.H Q E := by
  refine in_distinct ?_
  unfold b_distinct
  walk_at "g5"
  refine k_lstO (by simp) fun w1 p e1 hp o1 => ?_
  walk_at "g5"
  refine k_for_DT (dx.ex e1) (fun i σ w' => ∃ a2, σ = [some x, some (.ref p), a2] ∧ Ex [] w w' ∧ Ex [p] w1 w' ∧ Op w' p (.lst ((dst (c.take i) []).map V.int))) (fun i σ w' h => by obtain ⟨_, _, _, h, _⟩ := h; exact ⟨_, h⟩)
    ⟨_, rfl, e1, (Ex.refl w1).more (by simp) (by simpa using o1.n), by simpa [dst] using o1⟩ ?_ ?_
  · rintro i d y σ w' hd dy ⟨a2, rfl, E', ET, o'⟩
    obtain ⟨hi, rfl⟩ := get_map (z := (0 : Int)) hd
    obtain rfl := dy.of_int
    have tk : c.take (i + 1) = c.take i ++ [c.getD i 0] := by rw [List.take_add_one, List.getD_eq_getElem?_getD, List.getElem?_eq_getElem hi]; rfl
    have dl := dst_len (c.take i) []
    rw [List.length_take] at dl
    have ds := dst_snoc (c.take i) [] (c.getD i 0)
    rw [← tk] at ds
    generalize c.getD i 0 = t at ds
    walk_at "g5"
    refine c_nin_l o'.h rfl (flat_ints _) ?_
    rw [inV_ints]
    refine kif_n (fun h => ?_) fun h => ?_
    · walk_at "g5"
      refine k_m1 o'.h rfl ?_
      walk_at "g5"
      refine m_app o' (by rw [List.length_map, sizeLine_eq]; simp at dl; omega) fun w2 e2 o2 => ?_
      walk_at "g5"
      refine k_is ⟨_, rfl, E'.tf e2 hp, ET.tt e2, ?_⟩
      rw [ds, if_neg h, List.map_append]
      exact o2
    · walk_at "g5"
      refine k_is ⟨_, rfl, E', ET, ?_⟩
      rw [ds, if_pos h]
      exact o'
  · rintro σ w' ⟨a2, rfl, E', ET, o'⟩
    walk_at "g5"
    rw [List.length_map, List.take_length] at o'
    exact q w' p E' hp o'
end
section
variable {v : Ev} {n N : Nat} {w : Wd} {Q : VK} {E : XK}
theorem sinit_spec {b : Wd} {g dx : Addr} {x : V} {os : List (List Int)} (hb : Ex [] b w) (hgb : b.H g = none) (o : Op w g (.ins (v.cls c_Solver) dx [])) (hx : Dv w x (.list (os.map ct))) (ho : ∀ c ∈ os, c.length < 3000 ∧ ∀ t ∈ c, 1 ≤ t.natAbs ∧ t.natAbs ≤ n) (hn : n ≤ 1000) (hl : os.length ≤ 40000)
    (q : ∀ w' A T, A.g = g → A.b = b → Ex T w w' → So (v.cls c_Solver) w' A n (sv0 os) → Q .non w'.H) : spOf v D (N + 2) i_Solver_init [.ref g, x, .int (n : Nat)] w.H Q E := by
  refine in_Solver_init ?_
  unfold b_Solver_init
  walk_at "g5"
  refine k_lc_mk hx (fun i => ids (dst (os.getD i []) [])) (by rw [List.length_map]; omega) (fun i d y w' R hd E' dy hR => ?_) fun w1 cl zs e1 hcl o1 dzs => ?_
  · obtain ⟨hi, rfl⟩ := get_map (z := ([] : List Int)) hd
    have hm : os.getD i [] ∈ os := getD_in hi
    refine g_nm ?_
    dsimp only [wipe, List.set_cons_zero, List.set_cons_succ]
    refine k_mk1 rfl ?_
    walk_at "g5"
    refine distinct_spec dy (ho _ hm).1 fun w2 p e2 hp o2 => ?_
    obtain ⟨w3, h3, e3, d3⟩ := seal_lst o2 (Dvs.ints _)
    rw [← h3]
    exact hR w3 _ (e2.tf e3 hp) d3
  have hmap : (List.range (os.map ct).length).map (fun i => ids (dst (os.getD i []) [])) = (sv0 os).cls.map ids := by
    refine List.ext_getElem? fun i => ?_
    rw [List.getElem?_map, List.length_map, List.getElem?_map]
    show Option.map _ (List.range os.length)[i]? = Option.map ids ((os.map fun c => dst c [])[i]?)
    rw [List.getElem?_map]
    rcases Nat.lt_or_ge i os.length with z | z
    · rw [List.getElem?_range z, List.getElem?_eq_getElem z, Option.map_some, Option.map_some, Option.map_some, List.getD_eq_getElem?_getD, List.getElem?_eq_getElem z]; rfl
    · rw [List.getElem?_eq_none (by simpa using z), List.getElem?_eq_none z]; rfl
  rw [hmap] at dzs
  have zl : zs.length = os.length := by rw [dzs.length]; simp [sv0]
  have b1 := hb.t0 e1
  have cg1 : g ≠ cl := o.ne hcl
  have oc1 := o.ex e1 (by simp)
  have bcl := hb.free hcl
  walk_at "g5"
  refine k_ft oc1 (by simp) (gs := [("clauses", .ref cl)]) rfl fun w2 e2 o2 => ?_
  have cl2 := o1.ex e2 (by simpa using cg1.symm)
  have dz2 := dzs.ex e2
  have bg : ∀ {w' w'' : Wd}, Ex [] b w' → Ex [g] w' w'' → Ex [] b w'' := fun h h' => h.tf h' hgb
  have b2 := bg b1 e2
  walk_at "g5"
  refine k_ft o2 (by simp) (gs := [("clauses", .ref cl), ("variables", .int (n : Nat))]) (by rfl) fun w3 e3 o3 => ?_
  have cl3 := cl2.ex e3 (by simpa using cg1.symm)
  have dz3 := dz2.ex e3
  have b3 := bg b2 e3
  walk_at "g5"
  refine k_lstO (by simp) fun w4 tr e4 htr p4 => ?_
  have gtr := o3.ne htr
  have ctr := cl3.ne htr
  have b4 := b3.t0 e4
  have btr := b3.free htr
  walk_at "g5"
  refine k_ft (o3.ex e4 (by simp)) (by simp) (gs := [("clauses", .ref cl), ("variables", .int (n : Nat)), ("trail", .ref tr)]) (by rfl) fun w5 e5 o5 => ?_
  have cl5 := (cl3.ex e4 (by simp)).ex e5 (by simpa using cg1.symm)
  have tr5 := p4.ex e5 (by simpa using gtr.symm)
  have dz5 := (dz3.ex e4).ex e5
  have b5 := bg b4 e5
  walk_at "g5"
  refine new_op fun w6 rs e6 hrs p6 => ?_
  have grs := o5.ne hrs
  have brs := b5.free hrs
  have b6 := b5.t0 e6
  walk_at "g5"
  refine k_ft (o5.ex e6 (by simp)) (by simp) (gs := [("clauses", .ref cl), ("variables", .int (n : Nat)), ("trail", .ref tr), ("reasons", .ref rs)]) (by rfl) fun w7 e7 o7 => ?_
  have cl7 := (cl5.ex e6 (by simp)).ex e7 (by simpa using cg1.symm)
  have tr7 := (tr5.ex e6 (by simp)).ex e7 (by simpa using gtr.symm)
  have rs7 := p6.ex e7 (by simpa using grs.symm)
  have dz7 := (dz5.ex e6).ex e7
  have b7 := bg b6 e7
  walk_at "g5"
  refine k_ft o7 (by simp) (gs := [("clauses", .ref cl), ("variables", .int (n : Nat)), ("trail", .ref tr), ("reasons", .ref rs), ("handled", .int 0)]) (by rfl) fun w8 e8 o8 => ?_
  have cl8 := cl7.ex e8 (by simpa using cg1.symm)
  have tr8 := tr7.ex e8 (by simpa using gtr.symm)
  have rs8 := rs7.ex e8 (by simpa using grs.symm)
  have dz8 := dz7.ex e8
  have b8 := bg b7 e8
  walk_at "g5"
  refine k_lstO (by simp) fun w9 st e9 hst p9 => ?_
  have gst := o8.ne hst
  have cst := cl8.ne hst
  have tst := tr8.ne hst
  have bst := b8.free hst
  have b9 := b8.t0 e9
  walk_at "g5"
  refine k_ft (o8.ex e9 (by simp)) (by simp) (gs := [("clauses", .ref cl), ("variables", .int (n : Nat)), ("trail", .ref tr), ("reasons", .ref rs), ("handled", .int 0), ("steps", .ref st)]) (by rfl) fun w10 e10 o10 => ?_
  have cl10 := (cl8.ex e9 (by simp)).ex e10 (by simpa using cg1.symm)
  have tr10 := (tr8.ex e9 (by simp)).ex e10 (by simpa using gtr.symm)
  have rs10 := (rs8.ex e9 (by simp)).ex e10 (by simpa using grs.symm)
  have st10 := p9.ex e10 (by simpa using gst.symm)
  have dz10 := (dz8.ex e9).ex e10
  have b10 := bg b9 e10
  walk_at "g5"
  refine new_op fun w11 us e11 hus p11 => ?_
  have gus := o10.ne hus
  have rus := rs10.ne hus
  have bus := b10.free hus
  have b11 := b10.t0 e11
  walk_at "g5"
  refine k_ft (o10.ex e11 (by simp)) (by simp) (gs := [("clauses", .ref cl), ("variables", .int (n : Nat)), ("trail", .ref tr), ("reasons", .ref rs), ("handled", .int 0), ("steps", .ref st), ("users", .ref us)]) (by rfl) fun w12 e12 o12 => ?_
  have cl12 := (cl10.ex e11 (by simp)).ex e12 (by simpa using cg1.symm)
  have tr12 := (tr10.ex e11 (by simp)).ex e12 (by simpa using gtr.symm)
  have rs12 := (rs10.ex e11 (by simp)).ex e12 (by simpa using grs.symm)
  have st12 := (st10.ex e11 (by simp)).ex e12 (by simpa using gst.symm)
  have us12 := p11.ex e12 (by simpa using gus.symm)
  have dz12 := (dz10.ex e11).ex e12
  have b12 := bg b11 e12
  have S : So (v.cls c_Solver) w12 ⟨b, g, dx, cl, tr, rs, st, us⟩ n (sv0 os) (usr []) :=
    ⟨b12, by simp; exact ⟨hgb, bcl, btr, brs, bst, bus⟩, o12, ⟨zs, cl12, dz12⟩, tr12, rs12, ⟨[], st12, .nil⟩, ⟨[], us12, fun t _ => rfl, fun t x h => by simp [valV] at h, fun t u x h => by simp [valV] at h, ⟨[], rfl, List.nodup_nil, by simp⟩⟩, ctr, tst, cst, rus⟩
  obtain ⟨T0, E12⟩ : ∃ T, Ex T w w12 := by
    obtain ⟨T, h⟩ := Ex.any e1 e2
    obtain ⟨T, h⟩ := Ex.any h e3
    obtain ⟨T, h⟩ := Ex.any (h.t0 e4) e5
    obtain ⟨T, h⟩ := Ex.any (h.t0 e6) e7
    obtain ⟨T, h⟩ := Ex.any h e8
    obtain ⟨T, h⟩ := Ex.any (h.t0 e9) e10
    exact Ex.any (h.t0 e11) e12
  generalize hA : (⟨b, g, dx, cl, tr, rs, st, us⟩ : SA) = A at S
  have hg : A.g = g := by rw [← hA]
  have hb' : A.b = b := by rw [← hA]
  obtain ⟨cv, c12, dc12⟩ := S.cl
  have clen : cv.length = os.length := by rw [dc12.length]; simp [sv0]
  have slen : (sv0 os).cls.length = os.length := by simp [sv0]
  walk_at "g5"
  rw [← hg]
  refine k_flH S.og.h rfl ?_
  refine f_lenO c12.h ?_
  rw [clen]
  walk_at "g5"
  refine k_r1 (by omega) (by omega) ?_
  refine k_for_n os.length (by omega) (fun i σ w' => ∃ a3 T, σ = [some (.ref A.g), some x, some (.int (n : Nat)), a3, none] ∧ Ex T w w' ∧ So (v.cls c_Solver) w' A n (sv0 os) (usr ((sv0 os).cls.take i)))
    ⟨none, T0, rfl, E12, S⟩ ?_ ?_
  · rintro i σ w' hi ⟨a3, T, rfl, E', S'⟩
    have hil : i < (sv0 os).cls.length := by rw [slen]; exact hi
    have hcm : (sv0 os).cls.getD i [] ∈ (sv0 os).cls := getD_in hil
    have hc : ((sv0 os).cls.getD i []).Nodup ∧ ∀ t ∈ (sv0 os).cls.getD i [], 1 ≤ t.natAbs ∧ t.natAbs ≤ n := by
      obtain ⟨d, hd, e⟩ := List.mem_map.mp hcm
      rw [← e]
      exact ⟨dst_nd d [] List.nodup_nil, fun t ht => (ho d hd).2 t (((dst_mem d [] t).mp ht).resolve_right (by simp))⟩
    walk_at "g5"
    refine k_meH S'.og.h rfl ?_
    walk_at "g5"
    refine note_spec S' hil hc hn (fun t => by have := usr_len ((sv0 os).cls.take i) t; rw [List.length_take] at this; omega) fun w2 T2 e2 S2 => ?_
    obtain ⟨T3, E2⟩ := Ex.any E' e2
    walk_at "g5"
    refine k_is ⟨_, T3, rfl, E2, ?_⟩
    have tk : (sv0 os).cls.take (i + 1) = (sv0 os).cls.take i ++ [(sv0 os).cls.getD i []] := by rw [List.take_add_one, List.getD_eq_getElem?_getD, List.getElem?_eq_getElem hil]; rfl
    have tl : ((sv0 os).cls.take i).length = i := by rw [List.length_take]; omega
    have us := usr_snoc ((sv0 os).cls.take i) ((sv0 os).cls.getD i [])
    rw [tl] at us
    rw [tk, ← us]
    exact S2
  · rintro σ w' ⟨a3, T, rfl, E', S'⟩
    rw [← slen, List.take_length] at S'
    walk_at "g5"
    exact q w' A T hg hb' E' S'
end
/-! ### ways that meet again -/
theorem kif_gen2 {v : Ev} {W : WX} {σ : St} {H : Hp} {nx bk ct : St → Hp → Prop} {rt : VK} {c : Bool} {a : Sms} (G : St → Hp → Prop) (ha : c = true → ∀ nx' : St → Hp → Prop, (∀ s h, G s h → nx' s h) → a.den v W ⟨nx', rt, bk, ct⟩ σ H) (hb : c = false → G σ H) (h : ∀ s h, G s h → nx s h) :
    KIf v a .nil W ⟨nx, rt, bk, ct⟩ σ c H := by
  cases c with
  | true => exact kif_t (ha rfl nx h)
  | false =>
    refine kif_f ?_
    walk_at "g5"
    exact h _ _ (hb rfl)
def ansD : Ans → PyData
  | .unknown => .tuple [.str (S [117, 110, 107, 110, 111, 119, 110]), .none]
  | .refuted st => .tuple [.str (S [114, 101, 102, 117, 116, 101, 100]), .list (st.map sd)]
  | .model vs => .tuple [.str (S [109, 111, 100, 101, 108]), .list (vs.map .int)]
theorem sv0_ok {n : Nat} {os : List (List Int)} (h : ∀ c ∈ os, ∀ t ∈ c, 1 ≤ t.natAbs ∧ t.natAbs ≤ n) : SvOk n (sv0 os) := by
  refine ⟨fun c hc => ?_, fun t ht => by simp [sv0, tms] at ht, List.nodup_nil, Nat.le_refl _, fun i t k e => by simp [sv0] at e⟩
  obtain ⟨d, hd, rfl⟩ := List.mem_map.mp hc
  exact ⟨dst_nd d [] List.nodup_nil, fun t ht => h d hd t (((dst_mem d [] t).mp ht).resolve_right (by simp))⟩
/-- one turn of the search -/
def turnF (n L f cn : Nat) (r : Option Nat × Sv) : Ans :=
  match r.1 with
  | some k => if cn + 1 > L then .unknown else if (lrnF r.2 k).1 = true then srch n L f none (cn + 1) (lrnF r.2 k).2 else .refuted (lrnF r.2 k).2.st
  | none => match freeV r.2.tr n with
    | some v => srch n L f none cn { r.2 with tr := r.2.tr ++ [(-(v : Int), none)] }
    | none => .model (asgF r.2.tr n)
theorem srch_some (n L f cn k : Nat) (s : Sv) : srch n L (f + 1) (some k) cn s = turnF n L f cn (some k, s) := rfl
theorem srch_none (n L f cn : Nat) (s : Sv) : srch n L (f + 1) none cn s = turnF n L f cn (propF (n + 1) s) := rfl
section
variable {v : Ev} {n N : Nat} {w : Wd} {Q : VK} {E : XK}
theorem solve_spec {x : V} {os : List (List Int)} {L F : Nat} (hx : Dv w x (.list (os.map ct))) (ho : ∀ c ∈ os, c.length < 3000 ∧ ∀ t ∈ c, 1 ≤ t.natAbs ∧ t.natAbs ≤ n) (hn : n ≤ 1000) (hl : os.length ≤ 20000) (hL : L ≤ 20000) (hF : (L + 1) * (n + 2) + (n + 1) ≤ F)
    (q : ∀ w' y, Ex [] w w' → Dv w' y (ansD (solveF os n L F)) → Q y w'.H) : spOf v D (N + 4) i_solve [x, .int (n : Nat), .int (L : Nat)] w.H Q E := by
  have ho2 : ∀ c ∈ os, ∀ t ∈ c, 1 ≤ t.natAbs ∧ t.natAbs ≤ n := fun c hc => (ho c hc).2
  have O2 := sv0_ok ho2
  have I0 := Iv.begin ho2
  generalize hR : solveF os n L F = R at q
  have hR : srch n L F (beginF (sv0 os)).1 0 (beginF (sv0 os)).2 = R := hR
  refine in_solve ?_
  unfold b_solve
  walk_at "g5"
  refine k_mk fun w1 g dx e1 hg o1 => ?_
  refine sinit_spec (b := w) e1 hg o1 (hx.ex e1) ho hn (by omega) fun w2 A T hAg hAb E2 S2 => ⟨rfl, ?_⟩
  walk_at "g5"
  rw [← hAg]
  refine k_meH S2.og.h rfl ?_
  walk_at "g5"
  refine begin_spec hn S2 O2 (by simp [sv0]; omega) fun w3 e3 S3 => ?_
  walk_at "g5"
  refine r_whl (fun m σ w' => ∃ cn cf s, σ = [some x, some (.int (n : Nat)), some (.int (L : Nat)), some (.ref A.g), some (.int (cn : Nat)), some (rsV cf)] ∧ So (v.cls c_Solver) w' A n s ∧ Iv n os cn cf s ∧ cn ≤ L ∧ mu n L cn s ≤ m ∧ srch n L m cf cn s = R) F
    ⟨0, _, _, rfl, S3, I0, Nat.zero_le _, ?_, hR⟩ ?_
  · refine Nat.le_trans ?_ hF
    show (L + 1 - 0) * (n + 2) + (n + 1 - _) ≤ _
    rw [Nat.sub_zero]
    omega
  rintro m σ w4 ⟨cn, cf, s, rfl, S4, I, hcn, hmu, hs⟩
  have hlen := I.ok.len
  obtain ⟨m, rfl⟩ : ∃ j, m = j + 1 := ⟨m - 1, by have : mu n L cn s ≥ 1 := by { show (L + 1 - cn) * (n + 2) + (n + 1 - s.tr.length) ≥ 1; omega }
                                                 omega⟩
  have icl := I.len
  walk_at "g5"
  refine k_wht ?_
  walk_at "g5"
  refine kif_gen2 (fun σ H => ∃ r w', H = w'.H ∧ σ = [some x, some (.int (n : Nat)), some (.int (L : Nat)), some (.ref A.g), some (.int (cn : Nat)), some (rsV r.1)] ∧ So (v.cls c_Solver) w' A n r.2 ∧ Iv n os cn r.1 r.2 ∧ (r.1 = none → r.2.hd = r.2.tr.length) ∧ s.tr.length ≤ r.2.tr.length ∧ turnF n L m cn r = R) (fun hz nx' hnx => ?_) (fun hz => ?_) ?_
  · have : cf = none := by
      cases cf with
      | none => rfl
      | some k => simp [rsV] at hz
    subst this
    rw [srch_none] at hs
    walk_at "g5"
    refine k_meH S4.og.h rfl ?_
    walk_at "g5"
    refine prop_spec hn S4 I.ok (by omega) fun w5 T5 e5 S5 => ?_
    walk_at "g5"
    exact hnx _ _ ⟨propF (n + 1) s, w5, rfl, rfl, S5, I.prop.1, I.prop.2.1, I.prop.2.2, hs⟩
  · obtain ⟨k, rfl⟩ : ∃ k, cf = some k := by
      cases cf with
      | none => simp [rsV] at hz
      | some k => exact ⟨k, rfl⟩
    rw [srch_some] at hs
    exact ⟨(some k, s), w4, rfl, rfl, S4, I, fun h => (by cases h), Nat.le_refl _, hs⟩
  rintro σ H ⟨⟨c, s'⟩, w5, rfl, rfl, S5, J, hh, hle, hs5⟩
  dsimp only at S5 J hh hle hs5 ⊢
  have icl5 := J.len
  have num5 := J.num
  have bx : ∀ {w' : Wd} {s : Sv}, So (v.cls c_Solver) w' A n s → Ex [] w w' := fun h => by have := h.bx; rw [hAb] at this; exact this
  cases c with
  | some k =>
    simp only [rsV]
    have hs5 : (if cn + 1 > L then Ans.unknown else if (lrnF s' k).1 = true then srch n L m none (cn + 1) (lrnF s' k).2 else .refuted (lrnF s' k).2.st) = R := hs5
    walk_at "g5"
    refine kif_n (fun _ => ?_) fun h => (by cases h)
    walk_at "g5"
    refine kif_d (fun h => ?_) fun h => ?_
    · rw [if_pos (by omega)] at hs5
      walk_at "g5"
      refine k_tup (by simp) (.cons (.str _) (.cons .non .nil)) fun w6 y e6 d6 => ?_
      rw [← hs5] at q
      exact q w6 y ((bx S5).t0 e6) d6
    · rw [if_neg (by omega)] at hs5
      walk_at "g5"
      refine k_meH S5.og.h rfl ?_
      walk_at "g5"
      refine learn_spec hn S5 J.ok (J.bad k rfl).1 (by omega) (by omega) fun w6 T6 e6 S6 => ?_
      walk_at "g5"
      by_cases hd : dsF s' k = []
      · have en := J.end_ hd
        rw [en.1]
        rw [if_neg (by rw [en.1]; simp)] at hs5
        walk_at "g5"
        refine k_flH S6.og.h rfl ?_
        obtain ⟨sv, st6, ds6⟩ := S6.st
        obtain ⟨w7, h7, e7, d7⟩ := seal_lst st6 ds6
        have b7 : Ex [] w w7 := (bx S6).tf e7 (by rw [← hAb]; exact S6.fr _ (by simp))
        rw [← h7]
        walk_at "g5"
        refine k_tup (by simp) (.cons (.str _) (.cons d7 .nil)) fun w8 y e8 d8 => ?_
        rw [← hs5] at q
        exact q w8 y (b7.t0 e8) d8
      · have en := J.lrn hd
        rw [en.1]
        rw [if_pos en.1] at hs5
        walk_at "g5"
        have m1 := mu_lrn (n := n) (L := L) (cn := cn) (s := s') (s' := (lrnF s' k).2) (by omega)
        have m2 : mu n L cn s' ≤ mu n L cn s := by
          show (L + 1 - cn) * (n + 2) + (n + 1 - s'.tr.length) ≤ (L + 1 - cn) * (n + 2) + (n + 1 - s.tr.length)
          omega
        exact k_wx m (by omega) ⟨cn + 1, none, _, rfl, S6, en.2, by omega, by omega, hs5⟩
  | none =>
    simp only [rsV]
    have hs5 : (match freeV s'.tr n with
      | some v => srch n L m none cn { s' with tr := s'.tr ++ [(-(v : Int), none)] }
      | none => .model (asgF s'.tr n)) = R := hs5
    walk_at "g5"
    refine kif_n (fun h => absurd rfl h) fun _ => ?_
    walk_at "g5"
    refine k_meH S5.og.h rfl ?_
    walk_at "g5"
    refine decide_spec hn S5 J.ok ⟨fun i hi w6 e6 S6 => ?_, fun hi => ?_⟩
    · rw [hi] at hs5
      dsimp only at hs5
      have I6 := J.dec (hh rfl) hi
      have l6 := I6.ok.len
      walk_at "g5"
      have m2 : mu n L cn { s' with tr := s'.tr ++ [(-(i : Int), none)] } + 1 ≤ mu n L cn s := by
        show (L + 1 - cn) * (n + 2) + (n + 1 - (s'.tr ++ [(-(i : Int), none)]).length) + 1 ≤ (L + 1 - cn) * (n + 2) + (n + 1 - s.tr.length)
        dsimp only at l6
        rw [List.length_append, List.length_singleton] at l6 ⊢
        omega
      exact k_wx m (by omega) ⟨cn, none, _, rfl, S6, I6, hcn, by omega, hs5⟩
    · rw [hi] at hs5
      dsimp only at hs5
      walk_at "g5"
      refine k_meH S5.og.h rfl ?_
      walk_at "g5"
      refine assign_spec hn S5 fun w6 p e6 hp o6 => ?_
      obtain ⟨w7, h7, e7, d7⟩ := seal_lst o6 (Dvs.ints _)
      have b7 : Ex [] w w7 := (bx S5).trans (e6.tf e7 hp) (by simp)
      rw [← h7]
      walk_at "g5"
      refine k_tup (by simp) (.cons (.str _) (.cons d7 .nil)) fun w8 y e8 d8 => ?_
      rw [← hs5] at q
      exact q w8 y (b7.t0 e8) d8
end
/-! ### data that may be compared -/
structure Cn (p : Nat) (d : PyData) : Prop where
  cl : d.canLay0 = true
  dp : d.depth ≤ p
theorem Cn.int (i : Int) : Cn 0 (.int i) := ⟨by simp [PyData.canLay0], by simp [PyData.depth]⟩
theorem Cn.bool (i : Bool) : Cn 0 (.bool i) := ⟨by simp [PyData.canLay0], by simp [PyData.depth]⟩
theorem Cn.none : Cn 0 .none := ⟨by simp [PyData.canLay0], by simp [PyData.depth]⟩
theorem Cn.str {z : List Nat} (h : PyData.strOk (S z) = true) : Cn 0 (.str (S z)) := ⟨by simp [PyData.canLay0, h], by simp [PyData.depth]⟩
theorem Cn.mono {p q : Nat} {d : PyData} (h : Cn p d) (hp : p ≤ q) : Cn q d := ⟨h.cl, Nat.le_trans h.dp hp⟩
theorem cn_all {p : Nat} : ∀ {ds : List PyData}, (∀ d ∈ ds, Cn p d) → PyData.canLayAll0 ds = true ∧ PyData.depthAll ds ≤ p
  | [], _ => ⟨by simp [PyData.canLayAll0], by simp [PyData.depthAll]⟩
  | d :: r, h => by
    obtain ⟨h1, h3⟩ := cn_all (ds := r) fun e he => h e (List.mem_cons_of_mem _ he)
    have z := h d (List.mem_cons_self ..)
    exact ⟨by simp [PyData.canLayAll0, z.cl, h1], by simp only [PyData.depthAll]; have := z.dp; omega⟩
theorem Cn.list {p : Nat} {ds : List PyData} (h : ∀ d ∈ ds, Cn p d) : Cn (p + 1) (.list ds) := by
  obtain ⟨h1, h3⟩ := cn_all h
  exact ⟨by simpa [PyData.canLay0] using h1, by simp only [PyData.depth]; omega⟩
theorem Cn.tup {p : Nat} {ds : List PyData} (h : ∀ d ∈ ds, Cn p d) : Cn (p + 1) (.tuple ds) := by
  obtain ⟨h1, h3⟩ := cn_all h
  exact ⟨by simpa [PyData.canLay0] using h1, by simp only [PyData.depth]; omega⟩
theorem Cn.ints (xs : List Int) : Cn 1 (.list (xs.map .int)) := Cn.list fun d hd => by obtain ⟨i, _, rfl⟩ := List.mem_map.mp hd; exact Cn.int i
theorem Cn.intsT (xs : List Int) : Cn 1 (.tuple (xs.map .int)) := Cn.tup fun d hd => by obtain ⟨i, _, rfl⟩ := List.mem_map.mp hd; exact Cn.int i
theorem Cn.shaped {p : Nat} {d : PyData} (h : Cn p d) (hp : p ≤ 64) : SeqAt.shaped d = true := by
  unfold SeqAt.shaped
  rw [h.cl]
  simpa using Nat.le_trans h.dp hp
section
variable {K : PySem.W.Frag} {w : Wd} {P : Bool → Hp → Prop}
theorem c_neC {p : Nat} {x y : V} {d : PyData} (hd : Dq K w.H x d) (he : Dq K w.H y d) (z : Cn p d) (hp : p ≤ 64) (h : P false w.H) : KC2 K .NotEq x P y w.H :=
  c_neD hd he (z.shaped hp) (z.shaped hp) (by rw [SeqAt.eqv_refl d z.cl]; exact h)
theorem c_eqC {p : Nat} {x y : V} {d : PyData} (hd : Dq K w.H x d) (he : Dq K w.H y d) (z : Cn p d) (hp : p ≤ 64) (h : P true w.H) : KC2 K .Eq x P y w.H :=
  c_eqD hd he (z.shaped hp) (z.shaped hp) (by rw [SeqAt.eqv_refl d z.cl]; exact h)
end
theorem stepOf_sd {p : List Int × List Nat} (h : 0 ∉ p.1) : stepOf (sd p) = some ((true, p.1), (false, p.2.map fun k : Nat => (k : Int))) := by
  have e : sd p = rw_ true [rwi (true, p.1), rwi (false, p.2.map fun k : Nat => (k : Int))] := by
    show PyData.tuple [.tuple (p.1.map .int), .list (p.2.map fun k : Nat => PyData.int (k : Int))] = PyData.tuple [.tuple (p.1.map .int), .list ((p.2.map fun k : Nat => (k : Int)).map .int)]
    rw [List.map_map]; rfl
  rw [e, stepOf_rw h]
theorem chkR_steps {os : List (List Int)} {st : List (List Int × List Nat)} (S : Steps os st) (h0 : ∀ p ∈ st, 0 ∉ p.1) : ∀ (k j : Nat), j + k = st.length → chkR (os ++ (st.take j).map (·.1)) ((st.drop j).map sd) = true
  | 0, j, h => by
    rw [List.drop_eq_nil_of_le (by omega)]; rfl
  | k + 1, j, h => by
    have hj : j < st.length := by omega
    have ge : st[j]? = some st[j] := List.getElem?_eq_getElem hj
    rw [List.drop_eq_getElem_cons hj, List.map_cons]
    have st1 := stepOf_sd (h0 _ (List.getElem_mem hj))
    show (match stepOf (sd st[j]) with
      | some (c, h) => chkS (os ++ (st.take j).map (·.1)) (c.2.map (-·)) h.2 && chkR (os ++ (st.take j).map (·.1) ++ [c.2]) ((st.drop (j + 1)).map sd)
      | none => false) = true
    rw [st1]
    dsimp only
    have ih := chkR_steps S h0 k (j + 1) (by omega)
    rw [List.take_add_one, ge, List.map_append, ← List.append_assoc] at ih
    rw [S j _ ge, Bool.true_and]
    exact ih
theorem chkRef_rf {n : Nat} {os : List (List Int)} {st : List (List Int × List Nat)} (R : Rf n os st) : chkRef os (.list (st.map sd)) = true := by
  have h0 : ∀ p ∈ st, 0 ∉ p.1 := fun p hp z => by have := (R.rng p hp).1 0 z; simp at this
  obtain ⟨pre, hs, e⟩ := R.last
  have h1 := chkR_steps R.steps h0 st.length 0 (by omega)
  rw [List.drop_zero, List.take_zero, List.map_nil, List.append_nil] at h1
  have h2 : lastE ((st.map sd).getLastD .none) = true := by
    rw [e, List.map_append]
    have : (pre.map sd ++ [([], hs)].map sd).getLastD .none = sd ([], hs) := by simp
    rw [this]
    unfold lastE
    rw [stepOf_sd (by simp)]
    rfl
  have h3 : (st.map sd).isEmpty = false := by rw [e]; cases pre <;> rfl
  show (!(st.map sd).isEmpty && chkR os (st.map sd) && lastE ((st.map sd).getLastD .none)) = true
  rw [h1, h2, h3]; rfl
theorem stepOf_shrt {n : Nat} {os : List (List Int)} {st : List (List Int × List Nat)} (R : Rf n os st) (hn : n ≤ 1000) : ∀ e ∈ st.map sd, Shrt e := by
  intro e he
  obtain ⟨p, hp, rfl⟩ := List.mem_map.mp he
  have h0 : 0 ∉ p.1 := fun z => by have := (R.rng p hp).1 0 z; simp at this
  intro c h e2
  rw [stepOf_sd h0] at e2
  cases e2
  have l1 := cl_len (R.rng p hp).2 (R.rng p hp).1
  have l2 := (R.hl p hp).1
  exact ⟨by dsimp only; omega, by dsimp only; rw [List.length_map]; omega⟩
/-! ### sizes of data, dicts too -/
structure Sy (p n : Nat) (d : PyData) : Prop where
  sh : d.showable = true
  dp : d.depth ≤ p
  ln : d.shown.length ≤ n
theorem Sy.of {p n : Nat} {d : PyData} (h : Sz p n d) : Sy p n d := ⟨h.sh, h.dp, h.ln⟩
theorem Sy.mono {p n p' n' : Nat} {d : PyData} (h : Sy p n d) (hp : p ≤ p') (hn : n ≤ n') : Sy p' n' d := ⟨h.sh, Nat.le_trans h.dp hp, Nat.le_trans h.ln hn⟩
theorem all_sy {p n : Nat} : ∀ {ds : List PyData}, (∀ d ∈ ds, Sy p n d) → PyData.showableAll ds = true ∧ PyData.depthAll ds ≤ p
  | [], _ => ⟨by simp [PyData.showableAll], by simp [PyData.depthAll]⟩
  | d :: r, h => by
    obtain ⟨h2, h3⟩ := all_sy (ds := r) fun e he => h e (List.mem_cons_of_mem _ he)
    have z := h d (List.mem_cons_self ..)
    exact ⟨by simp [PyData.showableAll, z.sh, h2], by simp only [PyData.depthAll]; have := z.dp; omega⟩
theorem Sy.list {p n m : Nat} {ds : List PyData} (h : ∀ d ∈ ds, Sy p n d) (hm : ds.length ≤ m) : Sy (p + 1) (m * (n + 2) + 2) (.list ds) := by
  obtain ⟨h2, h3⟩ := all_sy h
  refine ⟨by simpa [PyData.showable] using h2, by simp only [PyData.depth]; omega, ?_⟩
  have a := listText_le (PyData.shownAll ds)
  have b := piled_shown (ds := ds) fun d hd => (h d hd).ln
  have c := Nat.mul_le_mul_right (n + 2) hm
  show (listText (PyData.shownAll ds)).length ≤ _
  omega
theorem Sy.tup {p n m : Nat} {ds : List PyData} (h : ∀ d ∈ ds, Sy p n d) (hm : ds.length ≤ m) : Sy (p + 1) (m * (n + 2) + 3) (.tuple ds) := by
  obtain ⟨h2, h3⟩ := all_sy h
  refine ⟨by simpa [PyData.showable] using h2, by simp only [PyData.depth]; omega, ?_⟩
  have a := tupleText_le (PyData.shownAll ds)
  have b := piled_shown (ds := ds) fun d hd => (h d hd).ln
  have c := Nat.mul_le_mul_right (n + 2) hm
  show (tupleText (PyData.shownAll ds)).length ≤ _
  omega
theorem f_reprY {K : PySem.W.Frag} {H : Hp} {Q : VK} {p n : Nat} {x : V} {d : PyData} (hd : Dq K H x d) (z : Sy p n d) (hp : p < 63) (hn : n ≤ 16777216) (h : Q (.str d.shown) H) : KBf K .repr Q [x] H :=
  f_repr hd z.sh (Nat.lt_of_le_of_lt z.dp hp) (Nat.le_trans z.ln (by rw [sizeLine_eq]; exact hn)) h
/-! ### bits -/
theorem bit_get {vs : List Int} (hb : ∀ x ∈ vs, x = 0 ∨ x = 1) (k : Nat) : vs.getD k 0 = 0 ∨ vs.getD k 0 = 1 := by
  rw [List.getD_eq_getElem?_getD]
  cases e : vs[k]? with
  | none => exact .inl rfl
  | some x => exact hb x (List.mem_of_getElem? e)
/-! ### the law's own check -/
theorem chkS_no {cs : List (List Int)} {vs : List Int} (hcs : ∀ c ∈ cs, tru vs c = true) (ht : ∀ c ∈ cs, 0 ∉ c) : ∀ (hs asm : List Int), (∀ t ∈ asm, tv vs t = true) → chkS cs asm hs = true → False
  | [], asm, ha, h => by simp [chkS] at h
  | x :: hs, asm, ha, h => by
    rw [chkS_cons] at h
    split at h
    · cases h
    rename_i hx
    have hm : cs.getD x.toNat [] ∈ cs := by
      rw [List.getD_eq_getElem?_getD, List.getElem?_eq_getElem (by omega)]
      exact List.getElem_mem _
    obtain ⟨t, htm, htv⟩ := List.any_eq_true.mp (hcs _ hm)
    have hneg : ∀ u, u ≠ 0 → tv vs u = true → tv vs (-u) = true → False := by
      intro u h0 h1 h2
      rcases Int.lt_or_gt_of_ne h0 with z | z
      · rw [tv_neg z] at h1
        rw [tv_pos (by omega)] at h2
        have h1 := of_decide_eq_true h1
        have h2 := of_decide_eq_true h2
        rw [h1] at h2; omega
      · rw [tv_pos z] at h1
        rw [tv_neg (by omega)] at h2
        have h1 := of_decide_eq_true h1
        have h2 := of_decide_eq_true h2
        rw [show - -u - 1 = u - 1 by omega, h1] at h2; omega
    have t0 : t ≠ 0 := fun z => ht _ hm (z ▸ htm)
    have hop : t ∈ opn asm (cs.getD x.toNat []) := opn_mem (fun hmem => hneg t t0 htv (ha _ hmem)) htm
    split at h
    · rename_i h0
      rw [List.length_eq_zero_iff.mp h0] at hop
      simp at hop
    split at h
    · cases h
    rename_i h0 h1
    have hl : (opn asm (cs.getD x.toNat [])).length = 1 := by omega
    obtain ⟨u, hu⟩ := List.length_eq_one_iff.mp hl
    rw [hu] at hop h
    have : t = u := by simpa using hop
    subst this
    refine chkS_no hcs ht hs _ (fun y hy => ?_) h
    rcases List.mem_append.mp hy with hy | hy
    · exact ha y hy
    · simp at hy; subst hy; exact htv
theorem chkR_no {vs : List Int} (hb : ∀ x ∈ vs, x = 0 ∨ x = 1) : ∀ (ds : List PyData) (cs : List (List Int)), (∀ c ∈ cs, tru vs c = true) → (∀ c ∈ cs, 0 ∉ c) → chkR cs ds = true → ∀ d ∈ ds, ∀ c h, stepOf d = some (c, h) → tru vs c.2 = true
  | [], _, _, _, _, _, hd, _, _, _ => by cases hd
  | e :: r, cs, h1, h2, hk, d, hd, c, h, es => by
    unfold chkR at hk
    split at hk
    · rename_i c0 h0 e0
      rw [Bool.and_eq_true] at hk
      have z0 : 0 ∉ c0.2 := (stepOf_some e0).2
      have key : tru vs c0.2 = true := by
        refine Classical.byContradiction fun hn => ?_
        have hn : tru vs c0.2 = false := by simpa using hn
        refine chkS_no h1 h2 h0.2 (c0.2.map (-·)) (fun t ht => ?_) hk.1
        obtain ⟨u, hu, rfl⟩ := List.mem_map.mp ht
        have hf := List.any_eq_false.mp hn u hu
        have hf : tv vs u = false := by simpa using hf
        have u0 : u ≠ 0 := fun z => z0 (z ▸ hu)
        rcases Int.lt_or_gt_of_ne u0 with z | z
        · rw [tv_neg z] at hf
          rw [tv_pos (by omega)]
          have hf := of_decide_eq_false hf
          rcases bit_get hb (-u - 1).toNat with q | q
          · exact absurd q hf
          · exact decide_eq_true q
        · rw [tv_pos z] at hf
          rw [tv_neg (by omega), show - -u - 1 = u - 1 by omega]
          have hf := of_decide_eq_false hf
          rcases bit_get hb (u - 1).toNat with q | q
          · exact decide_eq_true q
          · exact absurd q hf
      rcases List.mem_cons.mp hd with q | q
      · rw [q, e0] at es
        cases es
        exact key
      · refine chkR_no hb r (cs ++ [c0.2]) (fun x hx => ?_) (fun x hx => ?_) hk.2 d q c h es
        · rcases List.mem_append.mp hx with hx | hx
          · exact h1 x hx
          · rw [List.mem_singleton.mp hx]; exact key
        · rcases List.mem_append.mp hx with hx | hx
          · exact h2 x hx
          · rw [List.mem_singleton.mp hx]; exact z0
    · cases hk
/-- what is accepted has no model -/
theorem chkRef_no {vs : List Int} {cs : List (List Int)} {d : PyData} (hb : ∀ x ∈ vs, x = 0 ∨ x = 1) (h1 : ∀ c ∈ cs, tru vs c = true) (h2 : ∀ c ∈ cs, 0 ∉ c) (h : chkRef cs d = true) : False := by
  unfold chkRef at h
  split at h
  · rename_i b ds e
    simp only [Bool.and_eq_true] at h
    obtain ⟨⟨he, hk⟩, hl⟩ := h
    have hne : ds ≠ [] := fun z => by rw [z] at he; cases he
    obtain ⟨pre, l, rfl⟩ : ∃ pre l, ds = pre ++ [l] := ⟨_, _, (List.dropLast_concat_getLast hne).symm⟩
    have hll : (pre ++ [l]).getLastD .none = l := by simp
    rw [hll] at hl
    unfold lastE at hl
    split at hl
    · rename_i c hh es
      have hl := of_decide_eq_true hl
      have := chkR_no hb _ _ h1 h2 hk l (by simp) c hh es
      rw [List.length_eq_zero_iff.mp hl] at this
      cases this
    · cases hl
  · cases h
def stepR (cs : List (List Int)) (d : PyData) : Bool := match stepOf d with
  | some (c, h) => chkS cs (c.2.map (-·)) h.2
  | none => false
section
variable {v : Ev} {n N : Nat} {w : Wd} {x : V} {Q : VK} {E : XK}
theorem for_rowE {W : WX} {σ : St} {nx bk ct : St → Hp → Prop} {rt : VK} {b : Bool} {ds : List PyData} {g : Tg} {bd : Sms} {e : Xp} (he : ∀ R : VK, (∀ y, Dv w y (rw_ b ds) → R y w.H) → e.den v W σ w.H R) (Inv : Nat → St → Wd → Prop) (hk : ∀ i σ w', Inv i σ w' → ∃ T, Ex T w w') (h0 : Inv 0 σ w)
    (hs : ∀ i d y σ w', ds[i]? = some d → Dv w' y d → Inv i σ w' → g.den v W y σ w'.H fun σ2 H2 => bd.den v W ⟨KIs (Inv (i + 1)), rt, nx, KIs (Inv (i + 1))⟩ σ2 H2)
    (hd : ∀ σ w', Inv ds.length σ w' → nx σ w'.H) : Sm.den v (.for_ g (.any (.lst e) (.any (.tup e) (.txt e))) bd) W ⟨nx, rt, bk, ct⟩ σ w.H := by
  refine r_for ?_
  cases b with
  | true =>
    refine q_anyR (q_anyL ?_)
    exact q_tup (he _ fun y hx => k_for_DT hx Inv hk h0 hs hd)
  | false =>
    refine q_anyL ?_
    exact q_lst (he _ fun y hx => k_for_D hx Inv hk h0 hs hd)
def isBoolD : PyData → Bool
  | .bool _ => true
  | _ => false
def isLD : PyData → Bool
  | .list _ => true
  | _ => false
def isTD : PyData → Bool
  | .tuple _ => true
  | _ => false
theorem k_int (d : PyData) : kitB (kindN d) "int" = some (isIntD d || isBoolD d) := by cases d <;> rfl
theorem k_bool (d : PyData) : kitB (kindN d) "bool" = some (isBoolD d) := by cases d <;> rfl
theorem k_list (d : PyData) : kitB (kindN d) "list" = some (isLD d) := by cases d <;> rfl
theorem k_tuple (d : PyData) : kitB (kindN d) "tuple" = some (isTD d) := by cases d <;> rfl
theorem row_none {d : PyData} (h : rowOf d = none) : isLD d = false ∧ isTD d = false := by cases d <;> first | exact ⟨rfl, rfl⟩ | cases h
theorem row_some {b : Bool} {ds : List PyData} : isLD (rw_ b ds) = !b ∧ isTD (rw_ b ds) = b := by cases b <;> exact ⟨rfl, rfl⟩
theorem kta_row {W : WX} {σ : St} {i : Nat} {b c : Bool} {ds : List PyData} {P : Bool → Hp → Prop} (hσ : σ[i]? = some (some x)) (hx : Dv w x (rw_ b ds)) (hc : c = b) (h : P false w.H) : KTA v (.not (.tr (.bc .isi (.cons (.v i) (.cons (.ty "tuple") .nil))))) W σ P c w.H := by
  subst hc
  refine k_ta (fun hb => ?_) fun _ => h
  walk_at "g5"
  refine e_v ?_
  rw [hσ]
  refine k_v ?_
  walk_at "g5"
  refine ty_of hx "tuple" _ (k_tuple _) ?_
  rw [(row_some (b := c) (ds := ds)).2, hb]
  walk_at "g5"
  exact h
theorem lints_spec {d : PyData} (hx : Dv w x d) (q : Q (.bl (intsOf d).isSome) w.H) : spOf v D (N + 1) i_law_ints [x] w.H Q E := by
  refine in_law_ints ?_
  unfold b_law_ints
  walk_at "g5"
  refine ty_of hx "list" _ (k_list d) ?_
  cases hr : rowOf d with
  | none =>
    have : intsOf d = none := by unfold intsOf; rw [hr]
    rw [this] at q
    obtain ⟨h1, h2⟩ := row_none hr
    rw [h1]
    walk_at "g5"
    refine ty_of hx "tuple" _ (k_tuple d) ?_
    rw [h2]
    walk_at "g5"
    exact q
  | some p =>
    obtain ⟨b, ds⟩ := p
    have e : d = rw_ b ds := rowOf_some hr
    subst e
    have hi : intsOf (rw_ b ds) = if ds.all isIntD = true then some (b, ds.map toI) else none := by unfold intsOf; rw [hr]
    rw [hi] at q
    obtain ⟨h1, h2⟩ := row_some (b := b) (ds := ds)
    rw [h1]
    walk_at "g5"
    refine kta_row rfl hx (by simp) ?_
    walk_at "g5"
    refine for_row rfl hx (fun i σ w' => w' = w ∧ (∃ a1, σ = [some x, a1]) ∧ (ds.take i).all isIntD = true) (fun i σ w' h => ⟨[], by rw [h.1]; exact Ex.refl w⟩) ⟨rfl, ⟨_, rfl⟩, by simp⟩ ?_ ?_
    · rintro i d y σ w' hd dy ⟨rfl, ⟨a1, rfl⟩, ha⟩
      have tk : ds.take (i + 1) = ds.take i ++ [d] := by rw [List.take_add_one, hd]; rfl
      have no : isIntD d = false → Q (.bl false) w'.H := fun hz => by
        have : ¬ ds.all isIntD = true := fun h => by
          have := List.all_eq_true.mp h d (List.mem_of_getElem? hd)
          rw [hz] at this; cases this
        rw [if_neg this] at q
        exact q
      walk_at "g5"
      refine ty_of dy "int" _ (k_int d) ?_
      cases hz : isIntD d with
      | true =>
        have hb : isBoolD d = false := by cases d <;> first | rfl | cases hz
        rw [hb]
        walk_at "g5"
        refine k_to (fun h => by simp at h) fun _ => ?_
        walk_at "g5"
        refine ty_of dy "bool" _ (k_bool d) ?_
        rw [hb]
        walk_at "g5"
        refine k_is ⟨rfl, ⟨_, rfl⟩, ?_⟩
        rw [tk, List.all_append, ha]
        simp [hz]
      | false =>
        cases hb : isBoolD d with
        | true =>
          walk_at "g5"
          refine k_to (fun h => by simp at h) fun _ => ?_
          walk_at "g5"
          refine ty_of dy "bool" _ (k_bool d) ?_
          rw [hb]
          walk_at "g5"
          exact no hz
        | false =>
          walk_at "g5"
          exact no hz
    · rintro σ w' ⟨rfl, ⟨a1, rfl⟩, ha⟩
      rw [List.take_length] at ha
      rw [if_pos ha] at q
      walk_at "g5"
      exact q
end
section
variable {v : Ev} {n N : Nat} {w : Wd} {x : V} {Q : VK} {E : XK}
theorem stepOf_len {d : PyData} {b : Bool} {ds : List PyData} (h : rowOf d = some (b, ds)) (hl : ds.length ≠ 2) : stepOf d = none := by
  unfold stepOf
  rw [h]
  match ds, hl with
  | [], _ => rfl
  | [_], _ => rfl
  | [_, _], h => exact absurd rfl h
  | _ :: _ :: _ :: _, _ => rfl
theorem c_in_row {K : PySem.W.Frag} {b : Bool} {t : Int} {c : List Int} {P : Bool → Hp → Prop} (hx : Dv w x (rwi (b, c))) (h : P (decide (t ∈ c)) w.H) : KC2 K .In (.int t) P x w.H := by
  cases b with
  | true =>
    obtain ⟨a, xs, rfl, s, e, r⟩ := Dv.of_tup hx
    obtain rfl := r.of_ints
    refine RIn.flat (xs := c.map V.int) (.inr (sqT e)) rfl (flat_ints _) ?_
    rw [inV_ints]; exact h
  | false =>
    obtain ⟨a, xs, rfl, s, e, r⟩ := Dv.of_lst hx
    obtain rfl := r.of_ints
    refine RIn.flat (xs := c.map V.int) (.inl (sqL e)) rfl (flat_ints _) ?_
    rw [inV_ints]; exact h
theorem q_row {W : WX} {σ : St} {b : Bool} {ds : List PyData} {e : Xp} {R : It → Hp → Prop} (he : ∀ R : VK, (∀ y, Dv w y (rw_ b ds) → R y w.H) → e.den v W σ w.H R) (hL : ∀ y, Dv w y (.list ds) → KLs v.K R y w.H) (hT : ∀ y, Dv w y (.tuple ds) → KLt v.K R y w.H) : Sq.den v (.any (.lst e) (.any (.tup e) (.txt e))) W σ w.H R := by
  cases b with
  | true =>
    refine q_anyR (q_anyL ?_)
    exact q_tup (he _ hT)
  | false =>
    refine q_anyL ?_
    exact q_lst (he _ hL)
theorem lc_rowI {v' : Ev} {W W' : WX} {σ : St} {b : Bool} {c : List Int} {e : Xp} {g : TG} {te : TE} {own : List Nat} (he : ∀ R : VK, (∀ y, Dv w y (rwi (b, c)) → R y w.H) → e.den v W σ w.H R) (f : Int → Int) (hl : c.length ≤ 1000000)
    (hs : ∀ t w' (R : VK), t ∈ c → Ex [] w w' → R (.int (f t)) w'.H → g (.int t) (wipe σ own) w'.H (KMk1 te own σ R))
    (hd : ∀ w' p, Ex [] w w' → w.H p = none → Op w' p (.lst ((c.map f).map V.int)) → Q (.ref p) w'.H) : Sq.den v (.any (.lst e) (.any (.tup e) (.txt e))) W σ w.H (KLc g (Tto.den v' .no W') te own σ Q) := by
  have st : ∀ (i : Nat) (d : PyData) (y : V) (w' : Wd) (R : VK), (c.map PyData.int)[i]? = some d → Ex [] w w' → Dv w' y d → (∀ w2 z, Ex [] w' w2 → Dv w2 z (.int (f (c.getD i 0))) → R z w2.H) → g y (wipe σ own) w'.H (KMk1 te own σ R) := by
    intro i d y w' R hd' e' dy hR
    rw [List.getElem?_map] at hd'
    obtain ⟨t, ht, rfl⟩ := Option.map_eq_some_iff.mp hd'
    obtain rfl := dy.of_int
    have hg : c.getD i 0 = t := by rw [List.getD_eq_getElem?_getD, ht]; rfl
    rw [hg] at hR
    exact hs t w' R (List.mem_of_getElem? ht) e' (hR w' _ (Ex.refl _) (.int _))
  have fin : ∀ w' p zs, Ex [] w w' → w.H p = none → Op w' p (.lst zs) → Dvs w' zs ((List.range (c.map PyData.int).length).map fun i => .int (f (c.getD i 0))) → Q (.ref p) w'.H := by
    intro w' p zs e' hp o r
    have : ((List.range (c.map PyData.int).length).map fun i => PyData.int (f (c.getD i 0))) = (c.map f).map PyData.int := by
      rw [List.length_map, List.map_map]
      refine List.ext_getElem? fun k => ?_
      rw [List.getElem?_map, List.getElem?_map]
      rcases Nat.lt_or_ge k c.length with z | z
      · rw [List.getElem?_range z, List.getElem?_eq_getElem z]
        show some (PyData.int (f (c.getD k 0))) = _
        rw [List.getD_eq_getElem?_getD, List.getElem?_eq_getElem z]; rfl
      · rw [List.getElem?_eq_none (by simpa using z), List.getElem?_eq_none z]; rfl
    rw [this] at r
    obtain rfl := r.of_ints
    exact hd w' p e' hp o
  exact q_row he (fun y hy => k_lc_mk hy _ (by simpa using hl) st fin) fun y hy => k_lc_mkT hy _ (by simpa using hl) st fin
theorem lstep_spec {p : Addr} {ps : List (Bool × List Int)} {d : PyData} (kw : Kw w p ps) (dx : Dv w x d) (hps : ∀ c ∈ ps, c.2.length < 100000) (sh : Shrt d) (q : ∀ w', Ex [] w w' → Q (.bl (stepR (ps.map (·.2)) d)) w'.H) : spOf v D (N + 2) i_law_step [.ref p, x] w.H Q E := by
  refine in_law_step ?_
  unfold b_law_step
  walk_at "g5"
  refine ty_of dx "list" _ (k_list d) ?_
  have none_ : stepOf d = none → ∀ w', Ex [] w w' → Q (.bl false) w'.H := fun h w' e => by
    have : stepR (ps.map (·.2)) d = false := by unfold stepR; rw [h]
    rw [← this]; exact q w' e
  cases hr : rowOf d with
  | none =>
    have hs : stepOf d = none := by unfold stepOf; rw [hr]
    obtain ⟨h1, h2⟩ := row_none hr
    rw [h1]
    walk_at "g5"
    refine ty_of dx "tuple" _ (k_tuple d) ?_
    rw [h2]
    walk_at "g5"
    exact none_ hs w (Ex.refl w)
  | some pr =>
    obtain ⟨b, ds⟩ := pr
    have e : d = rw_ b ds := rowOf_some hr
    subst e
    obtain ⟨h1, h2⟩ := row_some (b := b) (ds := ds)
    rw [h1]
    walk_at "g5"
    refine kta_row rfl dx (by simp) ?_
    walk_at "g5"
    refine f_lenRow dx ?_
    walk_at "g5"
    refine kif_n (fun h => ?_) fun h => ?_
    · have : stepOf (rw_ b ds) = none := stepOf_len hr (by intro z; rw [z] at h; exact h rfl)
      walk_at "g5"
      exact none_ this w (Ex.refl w)
    have hl2 : ds.length = 2 := by omega
    obtain ⟨a1, a2, rfl⟩ : ∃ a1 a2, ds = [a1, a2] := by
      match ds, hl2 with
      | [a1, a2], _ => exact ⟨a1, a2, rfl⟩
    have hst : stepOf (rw_ b [a1, a2]) = match intsOf a1, intsOf a2 with
      | some c, some h => if 0 ∈ c.2 then none else some (c, h)
      | _, _ => none := by unfold stepOf; rw [hr] <;> rfl
    walk_at "g5"
    refine i_row dx (by decide) (d := a1) rfl fun y1 d1 => ?_
    walk_at "g5"
    refine lints_spec d1 ?_
    cases hi1 : intsOf a1 with
    | none =>
      rw [hi1] at hst
      simp only [Option.isSome_none]
      walk_at "g5"
      exact none_ hst w (Ex.refl w)
    | some c =>
    rw [hi1] at hst
    simp only [Option.isSome_some]
    walk_at "g5"
    refine i_row dx (by decide) (d := a2) rfl fun y2 d2 => ?_
    walk_at "g5"
    refine lints_spec d2 ?_
    cases hi2 : intsOf a2 with
    | none =>
      rw [hi2] at hst
      simp only [Option.isSome_none]
      walk_at "g5"
      exact none_ hst w (Ex.refl w)
    | some hs =>
    rw [hi2] at hst
    simp only [Option.isSome_some]
    have ea1 := intsOf_some hi1
    have ea2 := intsOf_some hi2
    subst ea1
    subst ea2
    walk_at "g5"
    refine i_row dx (by decide) (d := rwi c) rfl fun y3 d3 => ?_
    obtain ⟨cb, c⟩ := c
    obtain ⟨hb, hs⟩ := hs
    refine c_in_row d3 ?_
    dsimp only at hst
    refine kif_d (fun h0 => ?_) fun h0 => ?_
    · rw [if_pos h0] at hst
      walk_at "g5"
      exact none_ hst w (Ex.refl w)
    rw [if_neg h0] at hst
    have shc := sh _ _ hst
    dsimp only at shc
    have hq : stepR (ps.map (·.2)) (rw_ b [rwi (cb, c), rwi (hb, hs)]) = chkS (ps.map (·.2)) (c.map (-·)) hs := by unfold stepR; rw [hst]
    rw [hq] at q
    clear none_ hst hi1 hi2 hq
    generalize hcs : ps.map (·.2) = cs at q
    have csl : cs.length = ps.length := by rw [← hcs, List.length_map]
    have csg : ∀ j, cs.getD j [] = (ps.getD j (false, [])).2 := fun j => by
      rw [← hcs, List.getD_eq_getElem?_getD, List.getD_eq_getElem?_getD, List.getElem?_map]
      cases ps[j]? <;> rfl
    have rd0 : ∀ {v' : Ev} {W : WX} {σ : St} {w' : Wd} (R : VK), σ[1]? = some (some x) → Ex [] w w' → (∀ y, Dv w' y (rwi (cb, c)) → R y w'.H) → (Xp.ix (.v 1) (.c (.int 0))).den v' W σ w'.H R := fun R hσ e hR => by
      walk_at "g5"
      refine e_v ?_
      rw [hσ]
      refine k_v ?_
      walk_at "g5"
      exact i_row (dx.ex e) (by decide) (d := rwi (cb, c)) rfl hR
    have rd1 : ∀ {v' : Ev} {W : WX} {σ : St} {w' : Wd} (R : VK), σ[1]? = some (some x) → Ex [] w w' → (∀ y, Dv w' y (rwi (hb, hs)) → R y w'.H) → (Xp.ix (.v 1) (.c (.int 1))).den v' W σ w'.H R := fun R hσ e hR => by
      walk_at "g5"
      refine e_v ?_
      rw [hσ]
      refine k_v ?_
      walk_at "g5"
      exact i_row (dx.ex e) (by decide) (d := rwi (hb, hs)) rfl hR
    walk_at "g5"
    refine lc_rowI (b := cb) (c := c) (fun R hR => rd0 R rfl (Ex.refl w) hR) (fun t => -t) (by omega) (fun t w' R ht e' hR => ?_) fun w1 pa e1 hpa oa => ?_
    · refine g_nm ?_
      refine k_mk1 rfl ?_
      walk_at "g5"
      exact hR
    have pne : p ≠ pa := by
      obtain ⟨vs, o, _⟩ := kw.o
      exact o.ne hpa
    walk_at "g5"
    refine for_rowE (b := hb) (ds := hs.map .int) (fun R hR => rd1 R rfl e1 hR) (fun i σ w' => Ex [] w w' ∧ Ex [pa] w1 w' ∧ (∃ asm, Op w' pa (.lst (asm.map V.int)) ∧ asm.length ≤ c.length + i ∧ chkS cs (c.map (-·)) hs = chkS cs asm (hs.drop i)) ∧ ∃ a3 a4 a5, σ = [some (.ref p), some x, some (.ref pa), a3, a4, a5]) (fun i σ w' h => ⟨[pa], h.2.1⟩)
      ⟨e1, (Ex.refl w1).more (by simp) (by intro b hb; simp at hb; subst hb; exact oa.n), ⟨c.map (-·), oa, by simp, rfl⟩, _, _, _, rfl⟩ ?_ ?_
    · rintro i dd u σ w2 hdd du ⟨E2, ET, ⟨asm, o2, hal, hchk⟩, a3, a4, a5, rfl⟩
      rw [List.getElem?_map] at hdd
      obtain ⟨h, hh', rfl⟩ := Option.map_eq_some_iff.mp hdd
      obtain rfl := du.of_int
      have hi : i < hs.length := (List.getElem?_eq_some_iff.mp hh').1
      have hdrop : hs.drop i = h :: hs.drop (i + 1) := by
        rw [List.drop_eq_getElem_cons hi]
        rw [List.getElem?_eq_getElem hi] at hh'
        rw [Option.some.inj hh']
      rw [hdrop, chkS_cons] at hchk
      obtain ⟨vs, ok, dk⟩ := (kw.ex E2 (by simp)).o
      have vsl : vs.length = ps.length := by rw [dk.length, List.length_map]
      walk_at "g5"
      have ret : ∀ b, chkS cs (c.map (-·)) hs = b → ∀ w', Ex [] w w' → Q (.bl b) w'.H := fun b hb w' e' => by rw [← hb]; exact q w' e'
      refine k_to (fun h1 => ?_) fun h1 => ?_
      · have h1 := of_decide_eq_true h1
        rw [if_pos (.inl h1)] at hchk
        walk_at "g5"
        exact ret _ hchk w2 E2
      have h1 := of_decide_eq_false h1
      walk_at "g5"
      refine f_lenO ok.h ?_
      walk_at "g5"
      rw [vsl, ← csl]
      refine kif_d (fun h2 => ?_) fun h2 => ?_
      · rw [if_pos (.inr h2)] at hchk
        walk_at "g5"
        exact ret _ hchk w2 E2
      rw [if_neg (by omega)] at hchk
      walk_at "g5"
      refine k_lstO (by simp) fun w3 pt e3 hpt o3 => ?_
      have E3 := E2.t0 e3
      have hpt0 : w.H pt = none := E2.free hpt
      have ptpa : pa ≠ pt := o2.ne hpt
      have ptp : p ≠ pt := ok.ne hpt
      have oa3 := o2.ex e3 (by simp)
      have hm : ps.getD h.toNat (false, []) ∈ ps := by
        rw [List.getD_eq_getElem?_getD, List.getElem?_eq_getElem (by omega)]
        exact List.getElem_mem _
      have hcl : (cs.getD h.toNat []).length < 100000 := by rw [csg]; exact hps _ hm
      obtain ⟨kb, kc⟩ : ∃ kb, ps.getD h.toNat (false, []) = (kb, cs.getD h.toNat []) := ⟨(ps.getD h.toNat (false, [])).1, by rw [csg]⟩
      have rdk : ∀ {v' : Ev} {W : WX} {σ : St} (R : VK), σ[0]? = some (some (.ref p)) → σ[3]? = some (some (.int h)) → (∀ y, Dv w3 y (rwi (kb, cs.getD h.toNat [])) → R y w3.H) → (Xp.ix (.v 0) (.v 3)).den v' W σ w3.H R := fun R h0 h3 hR => by
        walk_at "g5"
        refine e_v ?_
        rw [h0]
        refine k_v ?_
        walk_at "g5"
        refine e_v ?_
        rw [h3]
        refine k_v ?_
        refine i_OM (z := (false, ([] : List Int))) (g := rwi) (ok.ex e3 (by simp)).h (dk.ex e3) (by omega) (by omega) fun y1 dy1 => ?_
        rw [kc] at dy1
        exact hR y1 dy1
      walk_at "g5"
      generalize hcj : cs.getD h.toNat [] = cj at hchk hcl rdk kc
      refine for_rowE (b := kb) (ds := cj.map .int) (fun R hR => rdk R rfl rfl hR) (fun j σ w' => Ex [] w w' ∧ Ex [pt] w3 w' ∧ Op w' pt (.lst ((opn asm (cj.take j)).map V.int)) ∧ ∃ a5, σ = [some (.ref p), some x, some (.ref pa), some (.int h), some (.ref pt), a5]) (fun i σ w' h => ⟨[pt], h.2.1⟩)
        ⟨E3, (Ex.refl w3).more (by simp) (by intro b hb; simp at hb; subst hb; exact o3.n), o3, _, rfl⟩ ?_ ?_
      · rintro j dd u σ w4 hd4 du ⟨E4, ET4, o4, a5, rfl⟩
        rw [List.getElem?_map] at hd4
        obtain ⟨t, ht, rfl⟩ := Option.map_eq_some_iff.mp hd4
        obtain rfl := du.of_int
        have hj := (List.getElem?_eq_some_iff.mp ht).1
        have nxt : opn asm (cj.take (j + 1)) = if -t ∉ asm ∧ t ∉ opn asm (cj.take j) then opn asm (cj.take j) ++ [t] else opn asm (cj.take j) := by
          rw [List.take_add_one, ht]
          exact opn_snoc asm (cj.take j) t
        have hlen := opn_len asm cj j (by omega)
        have oa4 := oa3.ex ET4 (by simpa using ptpa)
        walk_at "g5"
        refine c_nin_l oa4.h rfl (flat_ints _) ?_
        rw [inV_ints]
        refine k_ta (fun h1 => ?_) fun h1 => ?_
        · have h1 : -t ∉ asm := by simpa using h1
          walk_at "g5"
          refine c_nin_l o4.h rfl (flat_ints _) ?_
          rw [inV_ints]
          refine kif_n (fun h2 => ?_) fun h2 => ?_
          · walk_at "g5"
            refine k_m1 o4.h rfl ?_
            walk_at "g5"
            refine m_app o4 (by rw [List.length_map, sizeLine_eq]; omega) fun w5 e5 o5 => ?_
            walk_at "g5"
            refine k_is ⟨E4.tf e5 hpt0, ET4.tt e5, ?_, _, rfl⟩
            rw [nxt, if_pos ⟨h1, h2⟩]
            simpa using o5
          · walk_at "g5"
            refine k_is ⟨E4, ET4, ?_, _, rfl⟩
            rw [nxt, if_neg fun z => z.2 h2]
            exact o4
        · have h1 : -t ∈ asm := by simpa using h1
          walk_at "g5"
          refine k_is ⟨E4, ET4, ?_, _, rfl⟩
          rw [nxt, if_neg fun z => z.1 h1]
          exact o4
      · rintro σ w4 ⟨E4, ET4, o4, a5, rfl⟩
        rw [List.length_map, List.take_length] at o4
        have oa4 := oa3.ex ET4 (by simpa using ptpa)
        generalize opn asm cj = os at o4 hchk
        walk_at "g5"
        refine f_lenO o4.h ?_
        walk_at "g5"
        rw [List.length_map]
        refine kif_d (fun h3 => ?_) fun h3 => ?_
        · rw [if_pos (by omega)] at hchk
          walk_at "g5"
          exact ret _ hchk w4 E4
        rw [if_neg (by omega)] at hchk
        walk_at "g5"
        refine f_lenO o4.h ?_
        walk_at "g5"
        rw [List.length_map]
        refine kif_d (fun h4 => ?_) fun h4 => ?_
        · rw [if_pos (by omega)] at hchk
          walk_at "g5"
          exact ret _ hchk w4 E4
        rw [if_neg (by omega)] at hchk
        walk_at "g5"
        refine k_m1 oa4.h rfl ?_
        walk_at "g5"
        refine i_OG o4.h (by decide) (by omega) ?_
        walk_at "g5"
        refine m_app oa4 (by rw [List.length_map, sizeLine_eq]; omega) fun w5 e5 o5 => ?_
        walk_at "g5"
        have hpt1 : w1.H pt = none := ET.free hpt
        have ET5 : Ex [pa] w1 w4 := (ET.t0 e3).trans ET4 (fun b hb => by simp only [List.mem_singleton] at hb; rw [hb]; exact .inr hpt1)
        refine k_is ⟨E4.tf e5 hpa, ET5.tt e5, ⟨asm ++ [os.getD 0 0], by simpa using o5, by simp; omega, hchk⟩, _, _, _, rfl⟩
    · rintro σ w3 ⟨E3, ET, ⟨asm, o3, hal, hchk⟩, a3, a4, a5, rfl⟩
      rw [List.length_map, List.drop_length] at hchk
      walk_at "g5"
      have : chkS cs (c.map (-·)) hs = false := hchk
      rw [← this]
      exact q w3 E3
theorem lright_spec {cs : List (List Int)} {y : V} {d : PyData} (dx : Dv w x (.list (cs.map ct))) (dy : Dv w y d) (hcs : ∀ c ∈ cs, c.length < 100000) (hcl : cs.length < 100000) (hd : ∀ b ds, rowOf d = some (b, ds) → ds.length < 100000 ∧ ∀ e ∈ ds, Shrt e)
    (q : ∀ w', Ex [] w w' → Q (.bl (chkRef cs d)) w'.H) : spOf v D (N + 4) i_law_right [x, y] w.H Q E := by
  refine in_law_right ?_
  unfold b_law_right
  walk_at "g5"
  refine ty_of dy "list" _ (k_list d) ?_
  cases hr : rowOf d with
  | none =>
    have hs : chkRef cs d = false := by unfold chkRef; rw [hr]
    rw [hs] at q
    obtain ⟨h1, h2⟩ := row_none hr
    rw [h1]
    walk_at "g5"
    refine ty_of dy "tuple" _ (k_tuple d) ?_
    rw [h2]
    walk_at "g5"
    exact q w (Ex.refl w)
  | some pr =>
    obtain ⟨b, ds⟩ := pr
    have hds := hd b ds hr
    have e : d = rw_ b ds := rowOf_some hr
    subst e
    have hq : chkRef cs (rw_ b ds) = (!ds.isEmpty && chkR cs ds && lastE (ds.getLastD .none)) := by unfold chkRef; rw [hr]
    rw [hq] at q
    obtain ⟨h1, h2⟩ := row_some (b := b) (ds := ds)
    rw [h1]
    walk_at "g5"
    refine kta_row rfl dy (by simp) ?_
    walk_at "g5"
    refine f_lenRow dy ?_
    walk_at "g5"
    refine kif_d (fun h => ?_) fun h => ?_
    · have : ds = [] := List.length_eq_zero_iff.mp (by omega)
      subst this
      walk_at "g5"
      exact q w (Ex.refl w)
    · have hne : ds ≠ [] := fun z => h (by rw [z]; rfl)
      have he : ds.isEmpty = false := by cases ds with | nil => exact absurd rfl hne | cons _ _ => rfl
      rw [he] at q
      simp only [Bool.not_false, Bool.true_and] at q
      walk_at "g5"
      obtain ⟨a0, vs, rfl, s0, h0', r0⟩ := dx.of_lst
      refine f_lstO h0' (new_op fun w1 p e1 hp o1 => ?_)
      have dvs := r0.ex e1
      have kw1 : Kw w1 p (cs.map fun c => (true, c)) := ⟨vs, o1, by rw [List.map_map]; exact dvs⟩
      have nos : ∀ b ∈ [p], ¬ w1.S b := by simpa using o1.n
      walk_at "g5"
      refine for_row rfl (dy.ex e1) (fun i σ w' => ∃ a3 ps, σ = [some (.ref a0), some y, some (.ref p), a3] ∧ Ex [] w w' ∧ Ex [p] w1 w' ∧ Kw w' p ps ∧ ps.length = cs.length + i ∧ (∀ c ∈ ps, c.2.length < 100000) ∧ chkR cs ds = chkR (ps.map (·.2)) (ds.drop i) ∧ ∀ e ∈ ds.take i, (stepOf e).isSome = true) (fun i σ w' h => by obtain ⟨_, _, _, _, h, _⟩ := h; exact ⟨[p], h⟩)
        ⟨none, _, rfl, e1, (Ex.refl w1).more (by simp) nos, kw1, by simp, ?_, ?_, by simp⟩ ?_ ?_
      · intro c hc
        obtain ⟨c', h', rfl⟩ := List.mem_map.mp hc
        exact hcs c' h'
      · rw [List.map_map]
        show _ = chkR (cs.map id) _
        rw [List.map_id, List.drop_zero]
      · rintro i d y1 σ w' hd' dy1 ⟨a3, ps, rfl, E', ET, kw, psl, hps, hchk, hall⟩
        have hdm := List.mem_of_getElem? hd'
        have sh := hds.2 d hdm
        have hi : i < ds.length := (List.getElem?_eq_some_iff.mp hd').1
        rw [drop_at hd'] at hchk
        replace hchk : chkR cs ds = match stepOf d with
          | some (c, h) => chkS (ps.map (·.2)) (c.2.map (-·)) h.2 && chkR (ps.map (·.2) ++ [c.2]) (ds.drop (i + 1))
          | none => false := hchk
        walk_at "g5"
        refine lstep_spec kw dy1 hps sh fun w2 e2 => ?_
        cases hst : stepOf d with
        | none =>
          have hsr : stepR (ps.map (·.2)) d = false := by unfold stepR; rw [hst]
          rw [hst] at hchk
          dsimp only at hchk
          rw [hchk] at q
          rw [hsr]
          walk_at "g5"
          exact q w2 (E'.t0 e2)
        | some chh =>
          obtain ⟨c, hh⟩ := chh
          have hsr : stepR (ps.map (·.2)) d = chkS (ps.map (·.2)) (c.2.map (-·)) hh.2 := by unfold stepR; rw [hst]
          rw [hst] at hchk
          dsimp only at hchk
          rw [hsr]
          have shc := sh c hh hst
          cases hck : chkS (ps.map (·.2)) (c.2.map (-·)) hh.2 with
          | false =>
            rw [hck, Bool.false_and] at hchk
            rw [hchk] at q
            walk_at "g5"
            exact q w2 (E'.t0 e2)
          | true =>
            rw [hck, Bool.true_and] at hchk
            obtain ⟨⟨b', ed⟩, h0⟩ := stepOf_some hst
            have his : (stepOf d).isSome = true := by rw [hst]; rfl
            subst ed
            obtain ⟨vs', ok, dk⟩ := (kw.ex e2 (by simp)).o
            have vl : vs'.length = ps.length := by rw [dk.length, List.length_map]
            walk_at "g5"
            refine k_m1 ok.h rfl ?_
            walk_at "g5"
            refine i_row (dy1.ex e2) (by decide) (d := rwi c) rfl fun y4 d4 => ?_
            walk_at "g5"
            refine m_app ok (by rw [vl, psl, sizeLine_eq]; omega) fun w3 e3 o3 => ?_
            walk_at "g5"
            refine k_is ⟨_, ps ++ [c], rfl, (E'.t0 e2).tf e3 hp, (ET.t0 e2).tt e3, ⟨_, o3, ?_⟩, by rw [List.length_append, psl]; simp; omega, fun c' hc' => ?_, by rw [hchk, List.map_append]; rfl, fun e he => ?_⟩
            · rw [List.map_append]
              exact (dk.ex e3).app (.cons (d4.ex e3) .nil)
            · rcases List.mem_append.mp hc' with hc' | hc'
              · exact hps c' hc'
              · rw [List.mem_singleton.mp hc']; exact shc.1
            · rw [List.take_add_one, hd'] at he
              rcases List.mem_append.mp he with he | he
              · exact hall e he
              · have : e = rw_ b' [rwi c, rwi hh] := by simpa using he
                rw [this]; exact his
      · rintro σ w' ⟨a3, ps, rfl, E', ET, kw, psl, hps, hchk, hall⟩
        rw [List.drop_length] at hchk
        have hchk : chkR cs ds = true := hchk
        rw [hchk, Bool.true_and] at q
        rw [List.take_length] at hall
        have dl : 0 < ds.length := by omega
        obtain ⟨pre, l, rfl⟩ : ∃ pre l, ds = pre ++ [l] := ⟨_, _, (List.dropLast_concat_getLast hne).symm⟩
        have hl : (pre ++ [l]).getLastD .none = l := by simp
        rw [hl] at q
        have hlast := hall l (by simp)
        cases hst : stepOf l with
        | none => rw [hst] at hlast; cases hlast
        | some chh =>
          obtain ⟨c, hh⟩ := chh
          obtain ⟨⟨b', ed⟩, h0⟩ := stepOf_some hst
          have hle : lastE l = decide (c.2.length = 0) := by unfold lastE; rw [hst]
          rw [hle] at q
          subst ed
          have dy' := dy.ex E'
          have ll : (pre ++ [rw_ b' [rwi c, rwi hh]]).length = pre.length + 1 := by simp
          walk_at "g5"
          refine f_lenRow dy' ?_
          rw [ll]
          walk_at "g5"
          refine i_row dy' (d := rw_ b' [rwi c, rwi hh]) (by omega) (by rw [show (((pre.length + 1 : Nat) : Int) - 1).toNat = pre.length by omega, List.getElem?_append_right (Nat.le_refl _), Nat.sub_self]; rfl) fun y1 d1 => ?_
          walk_at "g5"
          refine i_row d1 (by decide) (d := rwi c) rfl fun y2 d2 => ?_
          walk_at "g5"
          refine f_lenRow d2 ?_
          walk_at "g5"
          rw [List.length_map]
          have : decide ((c.2.length : Int) = 0) = decide (c.2.length = 0) := by rw [decide_eq_decide]; omega
          rw [this]
          exact q w' E'
end
/-! ### _law_clause -/
section
variable {v : Ev} {n N : Nat} {w : Wd} {Q : VK} {E : XK}
theorem clause_spec {s c : Addr} {m : Int} {vn : Nat} (g : Gen w s c) (m0 : 0 ≤ m) (m1 : m < 1000) (v0 : 1 ≤ vn) (v1 : vn ≤ 1000)
    (q : ∀ w' x (cl : List Int), Ex [s, c] w w' → Gen w' s c → Dv w' x (ct cl) → (∀ t ∈ cl, 1 ≤ t.natAbs ∧ t.natAbs ≤ vn) → (cl.length : Int) = m → Q x w'.H) : spOf v D (n + 2) i_law_clause [.ref s, .int (vn : Nat), .int m] w.H Q E := by
  refine in_law_clause ?_
  unfold b_law_clause
  walk_at "go"
  refine k_lstO (by simp) fun w1 r e1 hr o1 => ?_
  have sr := g.fs hr
  have cr := g.fc hr
  walk_at "go"
  refine k_r1 (by omega) (by omega) ?_
  refine k_for_n m.toNat rfl (fun i σ w' => ∃ a4 a5 cl, σ = [some (.ref s), some (.int (vn : Nat)), some (.int m), some (.ref r), a4, a5] ∧ Ex [s, c] w w' ∧ Gen w' s c ∧ Op w' r (.lst (cl.map V.int)) ∧ (∀ t ∈ cl, 1 ≤ t.natAbs ∧ t.natAbs ≤ vn) ∧ cl.length = i)
    ⟨_, _, [], rfl, e1.gen g, g.ex0 e1, o1, fun t h => by simp at h, rfl⟩ ?_ ?_
  · rintro i σ w' hi ⟨a4, a5, cl, rfl, E', g', o', ht, hl⟩
    walk_at "go"
    refine take_spec g' (by omega) (by omega) fun w2 t e2 g2 t0 t1 => ?_
    have o2 := o'.ex e2 (by simp [Ne.symm sr, Ne.symm cr])
    walk_at "go"
    refine k_m1 o2.h rfl ?_
    walk_at "go"
    refine k_lst (by simp) (.cons (.int _) (.cons (.int _) .nil)) fun w3 z e3 d3 => ?_
    walk_at "go"
    refine take_spec (g2.ex0 e3) (by decide) (by decide) fun w4 u e4 g4 u0 u1 => ?_
    have o4 := (o2.ex e3 (by simp)).ex e4 (by simp [Ne.symm sr, Ne.symm cr])
    have hu : ∃ k : Int, ([PyData.int (1 + t), PyData.int (-(1 + t))] : List PyData)[u.toNat]? = some (.int k) ∧ 1 ≤ k.natAbs ∧ k.natAbs ≤ vn := by
      have : u = 0 ∨ u = 1 := by omega
      rcases this with e | e
      · subst e; exact ⟨1 + t, rfl, by omega, by omega⟩
      · subst e; exact ⟨-(1 + t), rfl, by omega, by omega⟩
    obtain ⟨k, hk, k1, k2⟩ := hu
    refine i_Li (d3.ex e4) u0 hk ?_
    walk_at "go"
    refine m_app o4 (by rw [List.length_map, sizeLine_eq]; omega) fun w5 e5 o5 => ?_
    walk_at "go"
    refine k_is ⟨_, _, cl ++ [k], rfl, (((E'.tt e2).t0 e3).tt e4).tf e5 hr, g4.ex e5 (by simpa using sr) (by simpa using cr), by simpa using o5, ?_, by simp [hl]⟩
    intro x hx
    rcases List.mem_append.mp hx with hx | hx
    · exact ht x hx
    · simp at hx; subst hx; exact ⟨k1, k2⟩
  · rintro σ w' ⟨a4, a5, cl, rfl, E', g', o', ht, hl⟩
    walk_at "go"
    refine f_tupO o'.h (Dvs.ints cl) fun w2 z e2 d2 => ?_
    exact q w2 z cl (E'.t0 e2) (g'.ex0 e2) d2 ht (by omega)
end
/-! ### strange values, bent steps -/
def thg : List PyData := [.none, .bool true, .bool false, .str (S []), .str (S [97, 98]), .int 0, .int 1, .int (-1), .list [], .tuple [], .list [.list [], .list []], .tuple [.tuple [], .tuple []], .list [.int 1], .tuple [.int 1, .int 2], .dict [], .dict [(.int 1, .int 2)]]
def shrB (d : PyData) : Bool := match stepOf d with
  | some (c, h) => decide (c.2.length < 100000) && decide (h.2.length < 100000)
  | none => true
theorem shr_of {d : PyData} (h : shrB d = true) : Shrt d := fun c hh e => by
  unfold shrB at h
  rw [e] at h
  rw [Bool.and_eq_true] at h
  exact ⟨of_decide_eq_true h.1, of_decide_eq_true h.2⟩
def syB (p n : Nat) (d : PyData) : Bool := d.showable && decide (d.depth ≤ p) && decide (d.shown.length ≤ n)
theorem sy_of {p n : Nat} {d : PyData} (h : syB p n d = true) : Sy p n d := by
  unfold syB at h
  rw [Bool.and_eq_true, Bool.and_eq_true] at h
  exact ⟨h.1.1, of_decide_eq_true h.1.2, of_decide_eq_true h.2⟩
def rowB (d : PyData) : Bool := match rowOf d with
  | some (_, ds) => decide (ds.length < 100000) && ds.all shrB
  | none => true
/-- what may be shown and checked -/
structure Good (d : PyData) : Prop where
  sy : Sy 5 300000 d
  sh : ∀ b ds, rowOf d = some (b, ds) → ds.length < 100000 ∧ ∀ e ∈ ds, Shrt e
structure GE (e : PyData) : Prop where
  sy : Sy 4 2000 e
  sh : Shrt e
theorem thg_ok {d : PyData} (h : d ∈ thg) : Good d ∧ GE d ∧ Sy 2 20 d := by
  have h1 : thg.all (syB 2 20) = true := by decide +kernel
  have h2 : thg.all shrB = true := by decide +kernel
  have h3 : thg.all rowB = true := by decide +kernel
  have z := sy_of (List.all_eq_true.mp h1 d h)
  refine ⟨⟨z.mono (by decide) (by decide), fun b ds e => ?_⟩, ⟨z.mono (by decide) (by decide), shr_of (List.all_eq_true.mp h2 d h)⟩, z⟩
  have h3 := List.all_eq_true.mp h3 d h
  unfold rowB at h3
  rw [e] at h3
  rw [Bool.and_eq_true] at h3
  exact ⟨of_decide_eq_true h3.1, fun x hx => shr_of (List.all_eq_true.mp h3.2 x hx)⟩
theorem good_row {b : Bool} {ds : List PyData} (h : ∀ e ∈ ds, GE e) (hl : ds.length ≤ 120) : Good (rw_ b ds) := by
  refine ⟨?_, fun b' ds' e => ?_⟩
  · cases b with
    | true => exact (Sy.tup (m := 120) (fun e he => (h e he).sy) hl).mono (by decide) (by decide)
    | false => exact (Sy.list (m := 120) (fun e he => (h e he).sy) hl).mono (by decide) (by decide)
  · have : ds' = ds := by cases b <;> (cases e; rfl)
    subst this
    exact ⟨by omega, fun e he => (h e he).sh⟩
theorem shrt_two {b : Bool} {a1 a2 : PyData} (h1 : ∀ bb xs, rowOf a1 = some (bb, xs) → xs.length < 100000) (h2 : ∀ bb xs, rowOf a2 = some (bb, xs) → xs.length < 100000) : Shrt (rw_ b [a1, a2]) := by
  intro c h e
  have hr : rowOf (rw_ b [a1, a2]) = some (b, [a1, a2]) := by cases b <;> rfl
  have key : ∀ (a : PyData) (c : Bool × List Int), intsOf a = some c → (∀ bb xs, rowOf a = some (bb, xs) → xs.length < 100000) → c.2.length < 100000 := fun a c hi hl => by
    have ea := intsOf_some hi
    subst ea
    obtain ⟨cb, c⟩ := c
    have := hl cb (c.map .int) (by cases cb <;> rfl)
    simpa using this
  have hst : stepOf (rw_ b [a1, a2]) = match intsOf a1, intsOf a2 with
      | some c, some h => if 0 ∈ c.2 then none else some (c, h)
      | _, _ => none := by unfold stepOf; rw [hr] <;> rfl
  rw [hst] at e
  cases hi1 : intsOf a1 with
  | none => rw [hi1] at e; cases e
  | some c1 =>
    cases hi2 : intsOf a2 with
    | none => rw [hi1, hi2] at e; cases e
    | some c2 =>
      rw [hi1, hi2] at e
      dsimp only at e
      split at e
      · cases e
      · cases e
        exact ⟨key a1 c hi1 h1, key a2 h hi2 h2⟩
/-- the sizes of the solver's steps -/
def StOk (st : List (List Int × List Nat)) : Prop := st.length ≤ 55 ∧ ∀ p ∈ st, p.1.length ≤ 8 ∧ p.2.length ≤ 8 ∧ (∀ t ∈ p.1, t.natAbs ≤ 1000) ∧ ∀ h ∈ p.2, h ≤ 1000
theorem sy_int {i : Int} (h : i.natAbs ≤ 1000) : Sy 2 20 (.int i) := (Sy.of (Sz.int (by omega))).mono (by decide) (by decide)
theorem ge_two {b c d : Bool} {xs ys : List PyData} (h1 : ∀ e ∈ xs, Sy 2 20 e) (h2 : ∀ e ∈ ys, Sy 2 20 e) (l1 : xs.length ≤ 20) (l2 : ys.length ≤ 20) : Sy 4 2000 (rw_ b [rw_ c xs, rw_ d ys]) ∧ Shrt (rw_ b [rw_ c xs, rw_ d ys]) := by
  have s1 : Sy 3 443 (rw_ c xs) := by
    cases c with
    | true => exact (Sy.tup (m := 20) h1 l1).mono (by decide) (by decide)
    | false => exact (Sy.list (m := 20) h1 l1).mono (by decide) (by decide)
  have s2 : Sy 3 443 (rw_ d ys) := by
    cases d with
    | true => exact (Sy.tup (m := 20) h2 l2).mono (by decide) (by decide)
    | false => exact (Sy.list (m := 20) h2 l2).mono (by decide) (by decide)
  refine ⟨?_, shrt_two (fun bb zs e => ?_) fun bb zs e => ?_⟩
  · have hh : ∀ e ∈ [rw_ c xs, rw_ d ys], Sy 3 443 e := by simp [s1, s2]
    cases b with
    | true => exact (Sy.tup (m := 2) hh (by simp)).mono (by decide) (by decide)
    | false => exact (Sy.list (m := 2) hh (by simp)).mono (by decide) (by decide)
  · have : zs = xs := by cases c <;> (cases e; rfl)
    rw [this]; omega
  · have : zs = ys := by cases d <;> (cases e; rfl)
    rw [this]; omega
theorem ge_sd {st : List (List Int × List Nat)} (h : StOk st) {e : PyData} (he : e ∈ st.map sd) : GE e := by
  obtain ⟨p, hp, rfl⟩ := List.mem_map.mp he
  have := h.2 p hp
  have g := ge_two (b := true) (c := true) (d := false) (xs := p.1.map .int) (ys := p.2.map fun k : Nat => .int (k : Int)) (by simpa using fun t ht => sy_int (this.2.2.1 t ht)) (by simpa using fun t ht => sy_int (by have := this.2.2.2 t ht; omega)) (by simp; omega) (by simp; omega)
  exact ⟨g.1, g.2⟩
section
variable {v : Ev} {n N : Nat} {w : Wd} {x : V} {Q : VK} {E : XK} {s c : Addr}
theorem strange_spec (g : Gen w s c) (q : ∀ w' z d, Ex [s, c] w w' → Gen w' s c → d ∈ thg → Dv w' z d → Q z w'.H) : spOf v D (N + 2) i_law_strange [.ref s] w.H Q E := by
  refine in_law_strange ?_
  unfold b_law_strange
  walk_at "g5"
  refine k_lst (ds := []) (by simp) .nil fun w1 x1 e1 d1 => ?_
  walk_at "g5"
  refine k_tup (ds := []) (by simp) .nil fun w2 x2 e2 d2 => ?_
  walk_at "g5"
  refine k_lst (ds := []) (by simp) .nil fun w3 x3 e3 d3 => ?_
  walk_at "g5"
  refine k_lst (ds := []) (by simp) .nil fun w4 x4 e4 d4 => ?_
  walk_at "g5"
  refine k_lst (ds := [.list [], .list []]) (by simp) (.cons (d3.ex e4) (.cons d4 .nil)) fun w5 x5 e5 d5 => ?_
  walk_at "g5"
  refine k_tup (ds := []) (by simp) .nil fun w6 x6 e6 d6 => ?_
  walk_at "g5"
  refine k_tup (ds := []) (by simp) .nil fun w7 x7 e7 d7 => ?_
  walk_at "g5"
  refine k_tup (ds := [.tuple [], .tuple []]) (by simp) (.cons (d6.ex e7) (.cons d7 .nil)) fun w8 x8 e8 d8 => ?_
  walk_at "g5"
  refine k_lst (ds := [.int 1]) (by simp) (.cons (.int _) .nil) fun w9 x9 e9 d9 => ?_
  walk_at "g5"
  refine k_tup (ds := [.int 1, .int 2]) (by simp) (.cons (.int _) (.cons (.int _) .nil)) fun w10 x10 e10 d10 => ?_
  walk_at "g5"
  refine new_op fun w11 p11 e11 h11 o11 => ?_
  obtain ⟨w12, hw12, e12, d12⟩ := seal_dK (ds := []) o11 .nil
  rw [← hw12]
  walk_at "g5"
  refine k_di fun w13 p13 e13 h13 o13 => ?_
  walk_at "g5"
  refine ⟨o13.h, [(.inl 1, .int 2)], rfl, by show (1 : Nat) ≤ 15; omega, ?_⟩
  have o14 : Op (w13.put p13 (.dK (mergeK [] [(.inl 1, .int 2)]))) p13 (.dK [(.inl 1, .int 2)]) := op_set o13
  have e14 := ex_set (o := .dK (mergeK [] [(.inl 1, .int 2)])) o13
  show KAs _ _ _ _ _ _ (w13.put p13 (.dK (mergeK [] [(.inl 1, .int 2)]))).H
  generalize w13.put p13 (.dK (mergeK [] [(.inl 1, .int 2)])) = w14 at o14 e14
  obtain ⟨w15, hw15, e15, d15⟩ := seal_dK (ds := [.int 2]) o14 (.cons (.int _) .nil)
  rw [← hw15]
  have E12 : Ex [] w10 w12 := e11.tf e12 h11
  have X12 : Ex [] w12 w15 := (e13.tf e14 h13).tf e15 h13
  have X10 := E12.t0 X12
  have X9 := e10.t0 X10
  have X8 := e9.t0 X9
  have X5 := ((e6.t0 e7).t0 e8).t0 X8
  have X2 := ((e3.t0 e4).t0 e5).t0 X5
  have X1 := e2.t0 X2
  have X0 := e1.t0 X1
  walk_at "g5"
  refine k_lst (ds := thg) (by simp) (.cons .non (.cons (.bl _) (.cons (.bl _) (.cons (.str _) (.cons (.str _) (.cons (.int _) (.cons (.int _) (.cons (.int _) (.cons (d1.ex X1) (.cons (d2.ex X2) (.cons (d5.ex X5) (.cons (d8.ex X8) (.cons (d9.ex X9) (.cons (d10.ex X10) (.cons (d12.ex X12) (.cons d15 .nil)))))))))))))))) fun w16 x16 e16 d16 => ?_
  have X16 := X0.t0 e16
  walk_at "g5"
  refine take_spec (g.ex0 X16) (by decide) (by decide) fun w17 k e17 g17 k0 k1 => ?_
  have hk : k.toNat < thg.length := by show k.toNat < 16; omega
  walk_at "g5"
  refine i_L (d := thg[k.toNat]) (d16.ex e17) k0 (List.getElem?_eq_getElem hk) fun y dy => ?_
  walk_at "g5"
  exact q w17 y _ ((X16.gen g).tt e17) g17 (List.getElem_mem hk) dy
/-- parts of a list of steps -/
theorem good_parts {st : List (List Int × List Nat)} (h : StOk st) {k m : Nat} {mid : List PyData} (hm : ∀ e ∈ mid, GE e) (hl : mid.length ≤ 1) : Good (.list ((st.map sd).take k ++ mid ++ (st.map sd).drop m)) := by
  refine good_row (b := false) (fun e he => ?_) ?_
  · rcases List.mem_append.mp he with he | he
    · rcases List.mem_append.mp he with he | he
      · exact ge_sd h (List.mem_of_mem_take he)
      · exact hm e he
    · exact ge_sd h (List.mem_of_mem_drop he)
  · have := h.1
    rw [List.length_append, List.length_append, List.length_take, List.length_drop, List.length_map]
    omega
theorem bent_spec {st : List (List Int × List Nat)} (g : Gen w s c) (dx : Dv w x (.list (st.map sd))) (h : StOk st) (h0 : 0 < st.length) (q : ∀ w' z d, Ex [s, c] w w' → Gen w' s c → Good d → Dv w' z d → Q z w'.H) : spOf v D (N + 3) i_law_bent [.ref s, x] w.H Q E := by
  have hl55 := h.1
  refine in_law_bent ?_
  unfold b_law_bent
  walk_at "g5"
  refine take_spec g (by decide) (by decide) fun w1 ch e1 g1 c0 c1 => ?_
  have dx1 := dx.ex e1
  walk_at "g5"
  refine k_to (fun hz => ?_) fun hz => ?_
  · walk_at "g5"
    refine strange_spec g1 fun w2 z d e2 g2 hd dz => ?_
    walk_at "g5"
    exact q w2 z d (e1.tt e2) g2 (thg_ok hd).1 dz
  walk_at "g5"
  refine f_lenL dx1 ?_
  rw [List.length_map]
  walk_at "g5"
  refine kif_d (fun hz => by omega) fun hz => ?_
  walk_at "g5"
  refine f_lenL dx1 ?_
  rw [List.length_map]
  walk_at "g5"
  refine take_spec g1 (by omega) (by omega) fun w2 k0 e2 g2 k00 k01 => ?_
  obtain ⟨k, rfl⟩ := Int.eq_ofNat_of_zero_le k00
  have hk : k < st.length := by omega
  have hk1 : ((k : Nat) : Int) + 1 = ((k + 1 : Nat) : Int) := by omega
  have dx2 := dx1.ex e2
  obtain ⟨p, hp⟩ : ∃ p, st[k]? = some p := ⟨_, List.getElem?_eq_getElem hk⟩
  have hpm := h.2 p (List.mem_of_getElem? hp)
  walk_at "g5"
  refine i_L (d := sd p) dx2 (by omega) (by rw [Int.toNat_natCast, List.getElem?_map, hp]; rfl) fun y dy => ?_
  refine k_tg ?_
  refine g_tup dy rfl fun xs rr => ?_
  cases rr with
  | cons dc rr =>
  cases rr with
  | cons dh rr =>
  cases rr
  rename_i yc yh
  have dc : Dv w2 yc (.tuple (p.1.map .int)) := dc
  have dh : Dv w2 yh (.list (p.2.map fun k : Nat => .int (k : Int))) := dh
  have sC : ∀ e ∈ p.1.map PyData.int, Sy 2 20 e := by simpa using fun t ht => sy_int (hpm.2.2.1 t ht)
  have sH : ∀ e ∈ p.2.map (fun k : Nat => PyData.int (k : Int)), Sy 2 20 e := by simpa using fun t ht => sy_int (by have := hpm.2.2.2 t ht; omega)
  have lC : (p.1.map PyData.int).length ≤ 8 := by simpa using hpm.1
  have lH : (p.2.map (fun k : Nat => PyData.int (k : Int))).length ≤ 8 := by simpa using hpm.2.1
  have lS : (st.map sd).length = st.length := by simp
  generalize p.1.map PyData.int = cl at dc sC lC
  generalize (p.2.map fun k : Nat => PyData.int (k : Int)) = hs at dh sH lH
  generalize hSS : st.map sd = SS at dx2 lS
  walk_at "g5"
  refine f_lenL dh ?_
  walk_at "g5"
  refine take_spec g2 (by omega) (by omega) fun w3 m0 e3 g3 m00 m01 => ?_
  obtain ⟨m, rfl⟩ := Int.eq_ofNat_of_zero_le m00
  have hm1 : ((m : Nat) : Int) + 1 = ((m + 1 : Nat) : Int) := by omega
  have dx3 := dx2.ex e3
  have dc3 := dc.ex e3
  have dh3 := dh.ex e3
  have E3 := (e1.tt e2).tt e3
  have GP : ∀ {mid : List PyData} {a b : Nat}, (∀ e ∈ mid, GE e) → mid.length ≤ 1 → Good (.list (SS.take a ++ mid ++ SS.drop b)) := fun hm hl => by rw [← hSS]; exact good_parts h hm hl
  walk_at "g5"
  refine kif_d (fun _ => ?_) fun _ => ?_
  · walk_at "g5"
    refine k_scD dx3 fun w4 z4 e4 d4 => ?_
    rw [cut_take] at d4
    have E4 := E3.t0 e4
    have g4 := g3.ex0 e4
    have x_4 := dx3.ex e4
    have c_4 := dc3.ex e4
    have h_4 := dh3.ex e4
    walk_at "g5"
    rw [hk1]
    refine k_scD x_4 fun w5 z5 e5 d5 => ?_
    rw [cut_drop] at d5
    have E5 := E4.t0 e5
    have g5 := g4.ex0 e5
    have x_5 := x_4.ex e5
    have c_5 := c_4.ex e5
    have h_5 := h_4.ex e5
    have A_5 := d4.ex e5
    walk_at "g5"
    refine o_addL A_5 d5 (by simp only [List.length_append, List.length_take, List.length_drop, List.length_cons, List.length_nil, sizeLine_eq]; omega) fun w6 z6 e6 d6 => ?_
    have E6 := E5.t0 e6
    have g6 := g5.ex0 e6
    have x_6 := x_5.ex e6
    have c_6 := c_5.ex e6
    have h_6 := h_5.ex e6
    have A_6 := A_5.ex e6
    have C_6 := d5.ex e6
    walk_at "g5"
    exact q w6 _ _ E6 g6 (by have := GP (mid := []) (a := k) (b := k + 1) (by simp) (by simp); simpa using this) d6
  walk_at "g5"
  refine kif_d (fun _ => ?_) fun _ => ?_
  · walk_at "g5"
    refine k_scD dx3 fun w4 z4 e4 d4 => ?_
    rw [cut_take] at d4
    have E4 := E3.t0 e4
    have g4 := g3.ex0 e4
    have x_4 := dx3.ex e4
    have c_4 := dc3.ex e4
    have h_4 := dh3.ex e4
    walk_at "g5"
    refine k_scD h_4 fun w5 z5 e5 d5 => ?_
    rw [cut_take] at d5
    have E5 := E4.t0 e5
    have g5 := g4.ex0 e5
    have x_5 := x_4.ex e5
    have c_5 := c_4.ex e5
    have h_5 := h_4.ex e5
    have A_5 := d4.ex e5
    walk_at "g5"
    rw [hm1]
    refine k_scD h_5 fun w6 z6 e6 d6 => ?_
    rw [cut_drop] at d6
    have E6 := E5.t0 e6
    have g6 := g5.ex0 e6
    have x_6 := x_5.ex e6
    have c_6 := c_5.ex e6
    have h_6 := h_5.ex e6
    have A_6 := A_5.ex e6
    have P_6 := d5.ex e6
    walk_at "g5"
    refine o_addL P_6 d6 (by simp only [List.length_append, List.length_take, List.length_drop, List.length_cons, List.length_nil, sizeLine_eq]; omega) fun w7 z7 e7 d7 => ?_
    have E7 := E6.t0 e7
    have g7 := g6.ex0 e7
    have x_7 := x_6.ex e7
    have c_7 := c_6.ex e7
    have h_7 := h_6.ex e7
    have A_7 := A_6.ex e7
    have P_7 := P_6.ex e7
    have R0_7 := d6.ex e7
    walk_at "g5"
    refine k_tup (ds := [.tuple cl, .list (hs.take m ++ hs.drop (m + 1))]) (by simp) (.cons c_7 (.cons d7 .nil)) fun w8 z8 e8 d8 => ?_
    have E8 := E7.t0 e8
    have g8 := g7.ex0 e8
    have x_8 := x_7.ex e8
    have c_8 := c_7.ex e8
    have h_8 := h_7.ex e8
    have A_8 := A_7.ex e8
    have HH_8 := d7.ex e8
    walk_at "g5"
    refine k_lst (ds := [.tuple [.tuple cl, .list (hs.take m ++ hs.drop (m + 1))]]) (by simp) (.cons d8 .nil) fun w9 z9 e9 d9 => ?_
    have E9 := E8.t0 e9
    have g9 := g8.ex0 e9
    have x_9 := x_8.ex e9
    have c_9 := c_8.ex e9
    have h_9 := h_8.ex e9
    have A_9 := A_8.ex e9
    have HH_9 := HH_8.ex e9
    have T_9 := d8.ex e9
    walk_at "g5"
    refine o_addL A_9 d9 (by simp only [List.length_append, List.length_take, List.length_drop, List.length_cons, List.length_nil, sizeLine_eq]; omega) fun w10 z10 e10 d10 => ?_
    have E10 := E9.t0 e10
    have g10 := g9.ex0 e10
    have x_10 := x_9.ex e10
    have c_10 := c_9.ex e10
    have h_10 := h_9.ex e10
    have A_10 := A_9.ex e10
    have HH_10 := HH_9.ex e10
    have M_10 := d9.ex e10
    walk_at "g5"
    rw [hk1]
    refine k_scD x_10 fun w11 z11 e11 d11 => ?_
    rw [cut_drop] at d11
    have E11 := E10.t0 e11
    have g11 := g10.ex0 e11
    have x_11 := x_10.ex e11
    have c_11 := c_10.ex e11
    have h_11 := h_10.ex e11
    have HH_11 := HH_10.ex e11
    have AM_11 := d10.ex e11
    walk_at "g5"
    refine o_addL AM_11 d11 (by simp only [List.length_append, List.length_take, List.length_drop, List.length_cons, List.length_nil, sizeLine_eq]; omega) fun w12 z12 e12 d12 => ?_
    have E12 := E11.t0 e12
    have g12 := g11.ex0 e12
    have x_12 := x_11.ex e12
    have c_12 := c_11.ex e12
    have h_12 := h_11.ex e12
    have HH_12 := HH_11.ex e12
    have AM_12 := AM_11.ex e12
    have C_12 := d11.ex e12
    walk_at "g5"
    exact q w12 _ _ E12 g12 (GP (fun e he => by rw [List.mem_singleton.mp he]; have := ge_two (b := true) (c := true) (d := false) sC (ys := hs.take m ++ hs.drop (m + 1)) (fun e he => by rcases List.mem_append.mp he with he | he; exact sH e (List.mem_of_mem_take he); exact sH e (List.mem_of_mem_drop he)) (by omega) (by simp only [List.length_append, List.length_take, List.length_drop]; omega); exact ⟨this.1, this.2⟩) (by simp)) d12
  walk_at "g5"
  refine kif_d (fun _ => ?_) fun _ => ?_
  · walk_at "g5"
    refine k_scD dx3 fun w4 z4 e4 d4 => ?_
    rw [cut_take] at d4
    have E4 := E3.t0 e4
    have g4 := g3.ex0 e4
    have x_4 := dx3.ex e4
    have c_4 := dc3.ex e4
    have h_4 := dh3.ex e4
    walk_at "g5"
    refine k_scD h_4 fun w5 z5 e5 d5 => ?_
    rw [cut_take] at d5
    have E5 := E4.t0 e5
    have g5 := g4.ex0 e5
    have x_5 := x_4.ex e5
    have c_5 := c_4.ex e5
    have h_5 := h_4.ex e5
    have A_5 := d4.ex e5
    walk_at "g5"
    refine strange_spec g5 fun w6 z6 D6 e6 g6 hD6 d6 => ?_
    have E6 := E5.tt e6
    have x_6 := x_5.ex e6
    have c_6 := c_5.ex e6
    have h_6 := h_5.ex e6
    have A_6 := A_5.ex e6
    have P_6 := d5.ex e6
    walk_at "g5"
    refine k_lst (ds := [D6]) (by simp) (.cons d6 .nil) fun w7 z7 e7 d7 => ?_
    have E7 := E6.t0 e7
    have g7 := g6.ex0 e7
    have x_7 := x_6.ex e7
    have c_7 := c_6.ex e7
    have h_7 := h_6.ex e7
    have A_7 := A_6.ex e7
    have P_7 := P_6.ex e7
    have S_7 := d6.ex e7
    walk_at "g5"
    refine o_addL P_7 d7 (by simp only [List.length_append, List.length_take, List.length_drop, List.length_cons, List.length_nil, sizeLine_eq]; omega) fun w8 z8 e8 d8 => ?_
    have E8 := E7.t0 e8
    have g8 := g7.ex0 e8
    have x_8 := x_7.ex e8
    have c_8 := c_7.ex e8
    have h_8 := h_7.ex e8
    have A_8 := A_7.ex e8
    have P_8 := P_7.ex e8
    have SL_8 := d7.ex e8
    walk_at "g5"
    refine k_scD h_8 fun w9 z9 e9 d9 => ?_
    rw [cut_drop] at d9
    have E9 := E8.t0 e9
    have g9 := g8.ex0 e9
    have x_9 := x_8.ex e9
    have c_9 := c_8.ex e9
    have h_9 := h_8.ex e9
    have A_9 := A_8.ex e9
    have PS_9 := d8.ex e9
    walk_at "g5"
    refine o_addL PS_9 d9 (by simp only [List.length_append, List.length_take, List.length_drop, List.length_cons, List.length_nil, sizeLine_eq]; omega) fun w10 z10 e10 d10 => ?_
    have E10 := E9.t0 e10
    have g10 := g9.ex0 e10
    have x_10 := x_9.ex e10
    have c_10 := c_9.ex e10
    have h_10 := h_9.ex e10
    have A_10 := A_9.ex e10
    have PS_10 := PS_9.ex e10
    have R0_10 := d9.ex e10
    walk_at "g5"
    refine k_tup (ds := [.tuple cl, .list (hs.take m ++ [D6] ++ hs.drop m)]) (by simp) (.cons c_10 (.cons d10 .nil)) fun w11 z11 e11 d11 => ?_
    have E11 := E10.t0 e11
    have g11 := g10.ex0 e11
    have x_11 := x_10.ex e11
    have c_11 := c_10.ex e11
    have h_11 := h_10.ex e11
    have A_11 := A_10.ex e11
    have HH_11 := d10.ex e11
    walk_at "g5"
    refine k_lst (ds := [.tuple [.tuple cl, .list (hs.take m ++ [D6] ++ hs.drop m)]]) (by simp) (.cons d11 .nil) fun w12 z12 e12 d12 => ?_
    have E12 := E11.t0 e12
    have g12 := g11.ex0 e12
    have x_12 := x_11.ex e12
    have c_12 := c_11.ex e12
    have h_12 := h_11.ex e12
    have A_12 := A_11.ex e12
    have HH_12 := HH_11.ex e12
    have T_12 := d11.ex e12
    walk_at "g5"
    refine o_addL A_12 d12 (by simp only [List.length_append, List.length_take, List.length_drop, List.length_cons, List.length_nil, sizeLine_eq]; omega) fun w13 z13 e13 d13 => ?_
    have E13 := E12.t0 e13
    have g13 := g12.ex0 e13
    have x_13 := x_12.ex e13
    have c_13 := c_12.ex e13
    have h_13 := h_12.ex e13
    have A_13 := A_12.ex e13
    have HH_13 := HH_12.ex e13
    have M_13 := d12.ex e13
    walk_at "g5"
    rw [hk1]
    refine k_scD x_13 fun w14 z14 e14 d14 => ?_
    rw [cut_drop] at d14
    have E14 := E13.t0 e14
    have g14 := g13.ex0 e14
    have x_14 := x_13.ex e14
    have c_14 := c_13.ex e14
    have h_14 := h_13.ex e14
    have HH_14 := HH_13.ex e14
    have AM_14 := d13.ex e14
    walk_at "g5"
    refine o_addL AM_14 d14 (by simp only [List.length_append, List.length_take, List.length_drop, List.length_cons, List.length_nil, sizeLine_eq]; omega) fun w15 z15 e15 d15 => ?_
    have E15 := E14.t0 e15
    have g15 := g14.ex0 e15
    have x_15 := x_14.ex e15
    have c_15 := c_14.ex e15
    have h_15 := h_14.ex e15
    have HH_15 := HH_14.ex e15
    have AM_15 := AM_14.ex e15
    have C_15 := d14.ex e15
    walk_at "g5"
    exact q w15 _ _ E15 g15 (GP (fun e he => by rw [List.mem_singleton.mp he]; have := ge_two (b := true) (c := true) (d := false) sC (ys := hs.take m ++ [D6] ++ hs.drop m) (fun e he => by rcases List.mem_append.mp he with he | he; (rcases List.mem_append.mp he with he | he; exact sH e (List.mem_of_mem_take he); (rw [List.mem_singleton.mp he]; exact (thg_ok hD6).2.2)); exact sH e (List.mem_of_mem_drop he)) (by omega) (by simp only [List.length_append, List.length_take, List.length_drop, List.length_singleton]; omega); exact ⟨this.1, this.2⟩) (by simp)) d15
  walk_at "g5"
  refine kif_d (fun _ => ?_) fun _ => ?_
  · walk_at "g5"
    refine k_scD dx3 fun w4 z4 e4 d4 => ?_
    rw [cut_take] at d4
    have E4 := E3.t0 e4
    have g4 := g3.ex0 e4
    have x_4 := dx3.ex e4
    have c_4 := dc3.ex e4
    have h_4 := dh3.ex e4
    walk_at "g5"
    refine f_lstT c_4 fun w5 z5 e5 d5 => ?_
    have E5 := E4.t0 e5
    have g5 := g4.ex0 e5
    have x_5 := x_4.ex e5
    have c_5 := c_4.ex e5
    have h_5 := h_4.ex e5
    have A_5 := d4.ex e5
    walk_at "g5"
    refine strange_spec g5 fun w6 z6 D6 e6 g6 hD6 d6 => ?_
    have E6 := E5.tt e6
    have x_6 := x_5.ex e6
    have c_6 := c_5.ex e6
    have h_6 := h_5.ex e6
    have A_6 := A_5.ex e6
    have CL_6 := d5.ex e6
    walk_at "g5"
    refine k_lst (ds := [D6]) (by simp) (.cons d6 .nil) fun w7 z7 e7 d7 => ?_
    have E7 := E6.t0 e7
    have g7 := g6.ex0 e7
    have x_7 := x_6.ex e7
    have c_7 := c_6.ex e7
    have h_7 := h_6.ex e7
    have A_7 := A_6.ex e7
    have CL_7 := CL_6.ex e7
    have S_7 := d6.ex e7
    walk_at "g5"
    refine o_addL CL_7 d7 (by simp only [List.length_append, List.length_take, List.length_drop, List.length_cons, List.length_nil, sizeLine_eq]; omega) fun w8 z8 e8 d8 => ?_
    have E8 := E7.t0 e8
    have g8 := g7.ex0 e8
    have x_8 := x_7.ex e8
    have c_8 := c_7.ex e8
    have h_8 := h_7.ex e8
    have A_8 := A_7.ex e8
    have CL_8 := CL_7.ex e8
    have SL_8 := d7.ex e8
    walk_at "g5"
    refine k_tup (ds := [.list (cl ++ [D6]), .list hs]) (by simp) (.cons d8 (.cons h_8 .nil)) fun w9 z9 e9 d9 => ?_
    have E9 := E8.t0 e9
    have g9 := g8.ex0 e9
    have x_9 := x_8.ex e9
    have c_9 := c_8.ex e9
    have h_9 := h_8.ex e9
    have A_9 := A_8.ex e9
    have CC_9 := d8.ex e9
    walk_at "g5"
    refine k_lst (ds := [.tuple [.list (cl ++ [D6]), .list hs]]) (by simp) (.cons d9 .nil) fun w10 z10 e10 d10 => ?_
    have E10 := E9.t0 e10
    have g10 := g9.ex0 e10
    have x_10 := x_9.ex e10
    have c_10 := c_9.ex e10
    have h_10 := h_9.ex e10
    have A_10 := A_9.ex e10
    have CC_10 := CC_9.ex e10
    have T_10 := d9.ex e10
    walk_at "g5"
    refine o_addL A_10 d10 (by simp only [List.length_append, List.length_take, List.length_drop, List.length_cons, List.length_nil, sizeLine_eq]; omega) fun w11 z11 e11 d11 => ?_
    have E11 := E10.t0 e11
    have g11 := g10.ex0 e11
    have x_11 := x_10.ex e11
    have c_11 := c_10.ex e11
    have h_11 := h_10.ex e11
    have A_11 := A_10.ex e11
    have CC_11 := CC_10.ex e11
    have M_11 := d10.ex e11
    walk_at "g5"
    rw [hk1]
    refine k_scD x_11 fun w12 z12 e12 d12 => ?_
    rw [cut_drop] at d12
    have E12 := E11.t0 e12
    have g12 := g11.ex0 e12
    have x_12 := x_11.ex e12
    have c_12 := c_11.ex e12
    have h_12 := h_11.ex e12
    have CC_12 := CC_11.ex e12
    have AM_12 := d11.ex e12
    walk_at "g5"
    refine o_addL AM_12 d12 (by simp only [List.length_append, List.length_take, List.length_drop, List.length_cons, List.length_nil, sizeLine_eq]; omega) fun w13 z13 e13 d13 => ?_
    have E13 := E12.t0 e13
    have g13 := g12.ex0 e13
    have x_13 := x_12.ex e13
    have c_13 := c_12.ex e13
    have h_13 := h_12.ex e13
    have CC_13 := CC_12.ex e13
    have AM_13 := AM_12.ex e13
    have C_13 := d12.ex e13
    walk_at "g5"
    exact q w13 _ _ E13 g13 (GP (fun e he => by rw [List.mem_singleton.mp he]; have := ge_two (b := true) (c := false) (d := false) (xs := cl ++ [D6]) (fun e he => by rcases List.mem_append.mp he with he | he; exact sC e he; (rw [List.mem_singleton.mp he]; exact (thg_ok hD6).2.2)) sH (by simp only [List.length_append, List.length_singleton]; omega) (by omega); exact ⟨this.1, this.2⟩) (by simp)) d13
  walk_at "g5"
  refine kif_d (fun _ => ?_) fun _ => ?_
  · walk_at "g5"
    refine k_lc_mk dx3 (fun i => .list [.list ((st.getD i ([], [])).1.map .int), .tuple ((st.getD i ([], [])).2.map fun k : Nat => .int (k : Int))]) (by omega) (fun i d y w' R hd e dy hR => ?_) fun w4 p4 zs e4 hp4 o4 r4 => ?_
    · rw [← hSS, List.getElem?_map] at hd
      obtain ⟨pp, hpp, rfl⟩ := Option.map_eq_some_iff.mp hd
      have hgp : st.getD i ([], []) = pp := by rw [List.getD_eq_getElem?_getD, hpp]; rfl
      rw [hgp] at hR
      refine g_nm ?_
      dsimp only [wipe, List.set_cons_zero, List.set_cons_succ]
      refine k_mk1 rfl ?_
      walk_at "g5"
      refine i_T (d := .tuple (pp.1.map .int)) dy (by decide) rfl fun y1 d1 => ?_
      walk_at "g5"
      refine f_lstT d1 fun w5 y5 e5 d5 => ?_
      walk_at "g5"
      refine i_T (d := .list (pp.2.map fun k : Nat => .int (k : Int))) (dy.ex e5) (by decide) rfl fun y2 d2 => ?_
      walk_at "g5"
      refine f_tupL d2 fun w6 y6 e6 d6 => ?_
      walk_at "g5"
      refine k_lst (by simp) (.cons (d5.ex e6) (.cons d6 .nil)) fun w7 y7 e7 d7 => ?_
      exact hR w7 y7 ((e5.t0 e6).t0 e7) d7
    walk_at "g5"
    refine f_tupO o4.h r4 fun w5 y5 e5 d5 => ?_
    walk_at "g5"
    refine q w5 y5 _ ((E3.t0 e4).t0 e5) ((g3.ex0 e4).ex0 e5) (good_row (b := true) (fun e he => ?_) (by simp; omega)) d5
    obtain ⟨i, hi, rfl⟩ := List.mem_map.mp he
    have hi : i < st.length := by have := List.mem_range.mp hi; omega
    have hm := h.2 (st.getD i ([], [])) (by rw [List.getD_eq_getElem?_getD, List.getElem?_eq_getElem hi]; exact List.getElem_mem _)
    generalize st.getD i ([], []) = pp at hm
    have g := ge_two (b := false) (c := false) (d := true) (xs := pp.1.map .int) (ys := pp.2.map fun k : Nat => .int (k : Int)) (by simpa using fun t ht => sy_int (hm.2.2.1 t ht)) (by simpa using fun t ht => sy_int (by have := hm.2.2.2 t ht; omega)) (by simp; omega) (by simp; omega)
    exact ⟨g.1, g.2⟩
  walk_at "g5"
  refine kif_d (fun _ => ?_) fun _ => ?_
  · walk_at "g5"
    refine k_scD dx3 fun w4 z4 e4 d4 => ?_
    rw [cut_take] at d4
    have E4 := E3.t0 e4
    have g4 := g3.ex0 e4
    have x_4 := dx3.ex e4
    have c_4 := dc3.ex e4
    have h_4 := dh3.ex e4
    walk_at "g5"
    refine strange_spec g4 fun w5 z5 D5 e5 g5 hD5 d5 => ?_
    have E5 := E4.tt e5
    have x_5 := x_4.ex e5
    have c_5 := c_4.ex e5
    have h_5 := h_4.ex e5
    have A_5 := d4.ex e5
    walk_at "g5"
    refine k_lst (ds := [D5]) (by simp) (.cons d5 .nil) fun w6 z6 e6 d6 => ?_
    have E6 := E5.t0 e6
    have g6 := g5.ex0 e6
    have x_6 := x_5.ex e6
    have c_6 := c_5.ex e6
    have h_6 := h_5.ex e6
    have A_6 := A_5.ex e6
    have S_6 := d5.ex e6
    walk_at "g5"
    refine o_addL A_6 d6 (by simp only [List.length_append, List.length_take, List.length_drop, List.length_cons, List.length_nil, sizeLine_eq]; omega) fun w7 z7 e7 d7 => ?_
    have E7 := E6.t0 e7
    have g7 := g6.ex0 e7
    have x_7 := x_6.ex e7
    have c_7 := c_6.ex e7
    have h_7 := h_6.ex e7
    have A_7 := A_6.ex e7
    have M_7 := d6.ex e7
    walk_at "g5"
    refine k_scD x_7 fun w8 z8 e8 d8 => ?_
    rw [cut_drop] at d8
    have E8 := E7.t0 e8
    have g8 := g7.ex0 e8
    have x_8 := x_7.ex e8
    have c_8 := c_7.ex e8
    have h_8 := h_7.ex e8
    have AM_8 := d7.ex e8
    walk_at "g5"
    refine o_addL AM_8 d8 (by simp only [List.length_append, List.length_take, List.length_drop, List.length_cons, List.length_nil, sizeLine_eq]; omega) fun w9 z9 e9 d9 => ?_
    have E9 := E8.t0 e9
    have g9 := g8.ex0 e9
    have x_9 := x_8.ex e9
    have c_9 := c_8.ex e9
    have h_9 := h_8.ex e9
    have AM_9 := AM_8.ex e9
    have C_9 := d8.ex e9
    walk_at "g5"
    exact q w9 _ _ E9 g9 (GP (fun e he => by rw [List.mem_singleton.mp he]; exact (thg_ok hD5).2.1) (by simp)) d9
  walk_at "g5"
  refine kif_d (fun _ => ?_) fun _ => ?_
  · walk_at "g5"
    refine k_tup (ds := [.tuple cl, .list hs]) (by simp) (.cons dc3 (.cons dh3 .nil)) fun w4 z4 e4 d4 => ?_
    have E4 := E3.t0 e4
    have g4 := g3.ex0 e4
    have x_4 := dx3.ex e4
    have c_4 := dc3.ex e4
    have h_4 := dh3.ex e4
    walk_at "g5"
    refine k_lst (ds := [.tuple [.tuple cl, .list hs]]) (by simp) (.cons d4 .nil) fun w5 z5 e5 d5 => ?_
    have E5 := E4.t0 e5
    have g5 := g4.ex0 e5
    have x_5 := x_4.ex e5
    have c_5 := c_4.ex e5
    have h_5 := h_4.ex e5
    have T_5 := d4.ex e5
    walk_at "g5"
    refine o_addL x_5 d5 (by simp only [List.length_append, List.length_take, List.length_drop, List.length_cons, List.length_nil, sizeLine_eq]; omega) fun w6 z6 e6 d6 => ?_
    have E6 := E5.t0 e6
    have g6 := g5.ex0 e6
    have x_6 := x_5.ex e6
    have c_6 := c_5.ex e6
    have h_6 := h_5.ex e6
    have M_6 := d5.ex e6
    have x2_6 := x_5.ex e6
    walk_at "g5"
    exact q w6 _ _ E6 g6 (by have := GP (mid := [.tuple [.tuple cl, .list hs]]) (a := SS.length) (b := SS.length) (fun e he => by rw [List.mem_singleton.mp he]; have := ge_two (b := true) (c := true) (d := false) sC sH (by omega) (by omega); exact ⟨this.1, this.2⟩) (by simp); simpa using this) d6
  walk_at "g5"
  refine kif_d (fun _ => ?_) fun _ => ?_
  · walk_at "g5"
    refine k_scD dx3 fun w4 z4 e4 d4 => ?_
    rw [cut_take] at d4
    have E4 := E3.t0 e4
    have g4 := g3.ex0 e4
    have x_4 := dx3.ex e4
    have c_4 := dc3.ex e4
    have h_4 := dh3.ex e4
    walk_at "g5"
    refine k_scD h_4 fun w5 z5 e5 d5 => ?_
    rw [cut_take] at d5
    have E5 := E4.t0 e5
    have g5 := g4.ex0 e5
    have x_5 := x_4.ex e5
    have c_5 := c_4.ex e5
    have h_5 := h_4.ex e5
    have A_5 := d4.ex e5
    walk_at "g5"
    refine take_spec g5 (by decide) (by decide) fun w6 u6 e6 g6 u0 u1 => ?_
    have E6 := E5.tt e6
    have x_6 := x_5.ex e6
    have c_6 := c_5.ex e6
    have h_6 := h_5.ex e6
    have A_6 := A_5.ex e6
    have P_6 := d5.ex e6
    walk_at "g5"
    refine k_lst (ds := [.int u6]) (by simp) (.cons (.int _) .nil) fun w7 z7 e7 d7 => ?_
    have E7 := E6.t0 e7
    have g7 := g6.ex0 e7
    have x_7 := x_6.ex e7
    have c_7 := c_6.ex e7
    have h_7 := h_6.ex e7
    have A_7 := A_6.ex e7
    have P_7 := P_6.ex e7
    walk_at "g5"
    refine o_addL P_7 d7 (by simp only [List.length_append, List.length_take, List.length_drop, List.length_cons, List.length_nil, sizeLine_eq]; omega) fun w8 z8 e8 d8 => ?_
    have E8 := E7.t0 e8
    have g8 := g7.ex0 e8
    have x_8 := x_7.ex e8
    have c_8 := c_7.ex e8
    have h_8 := h_7.ex e8
    have A_8 := A_7.ex e8
    have P_8 := P_7.ex e8
    have SL_8 := d7.ex e8
    walk_at "g5"
    refine k_scD h_8 fun w9 z9 e9 d9 => ?_
    rw [cut_drop] at d9
    have E9 := E8.t0 e9
    have g9 := g8.ex0 e9
    have x_9 := x_8.ex e9
    have c_9 := c_8.ex e9
    have h_9 := h_8.ex e9
    have A_9 := A_8.ex e9
    have PS_9 := d8.ex e9
    walk_at "g5"
    refine o_addL PS_9 d9 (by simp only [List.length_append, List.length_take, List.length_drop, List.length_cons, List.length_nil, sizeLine_eq]; omega) fun w10 z10 e10 d10 => ?_
    have E10 := E9.t0 e10
    have g10 := g9.ex0 e10
    have x_10 := x_9.ex e10
    have c_10 := c_9.ex e10
    have h_10 := h_9.ex e10
    have A_10 := A_9.ex e10
    have PS_10 := PS_9.ex e10
    have R0_10 := d9.ex e10
    walk_at "g5"
    refine k_tup (ds := [.tuple cl, .list (hs.take m ++ [.int u6] ++ hs.drop m)]) (by simp) (.cons c_10 (.cons d10 .nil)) fun w11 z11 e11 d11 => ?_
    have E11 := E10.t0 e11
    have g11 := g10.ex0 e11
    have x_11 := x_10.ex e11
    have c_11 := c_10.ex e11
    have h_11 := h_10.ex e11
    have A_11 := A_10.ex e11
    have HH_11 := d10.ex e11
    walk_at "g5"
    refine k_lst (ds := [.tuple [.tuple cl, .list (hs.take m ++ [.int u6] ++ hs.drop m)]]) (by simp) (.cons d11 .nil) fun w12 z12 e12 d12 => ?_
    have E12 := E11.t0 e12
    have g12 := g11.ex0 e12
    have x_12 := x_11.ex e12
    have c_12 := c_11.ex e12
    have h_12 := h_11.ex e12
    have A_12 := A_11.ex e12
    have HH_12 := HH_11.ex e12
    have T_12 := d11.ex e12
    walk_at "g5"
    refine o_addL A_12 d12 (by simp only [List.length_append, List.length_take, List.length_drop, List.length_cons, List.length_nil, sizeLine_eq]; omega) fun w13 z13 e13 d13 => ?_
    have E13 := E12.t0 e13
    have g13 := g12.ex0 e13
    have x_13 := x_12.ex e13
    have c_13 := c_12.ex e13
    have h_13 := h_12.ex e13
    have A_13 := A_12.ex e13
    have HH_13 := HH_12.ex e13
    have M_13 := d12.ex e13
    walk_at "g5"
    rw [hk1]
    refine k_scD x_13 fun w14 z14 e14 d14 => ?_
    rw [cut_drop] at d14
    have E14 := E13.t0 e14
    have g14 := g13.ex0 e14
    have x_14 := x_13.ex e14
    have c_14 := c_13.ex e14
    have h_14 := h_13.ex e14
    have HH_14 := HH_13.ex e14
    have AM_14 := d13.ex e14
    walk_at "g5"
    refine o_addL AM_14 d14 (by simp only [List.length_append, List.length_take, List.length_drop, List.length_cons, List.length_nil, sizeLine_eq]; omega) fun w15 z15 e15 d15 => ?_
    have E15 := E14.t0 e15
    have g15 := g14.ex0 e15
    have x_15 := x_14.ex e15
    have c_15 := c_14.ex e15
    have h_15 := h_14.ex e15
    have HH_15 := HH_14.ex e15
    have AM_15 := AM_14.ex e15
    have C_15 := d14.ex e15
    walk_at "g5"
    exact q w15 _ _ E15 g15 (GP (fun e he => by rw [List.mem_singleton.mp he]; have := ge_two (b := true) (c := true) (d := false) sC (ys := hs.take m ++ [.int u6] ++ hs.drop m) (fun e he => by rcases List.mem_append.mp he with he | he; (rcases List.mem_append.mp he with he | he; exact sH e (List.mem_of_mem_take he); (rw [List.mem_singleton.mp he]; exact sy_int (by omega))); exact sH e (List.mem_of_mem_drop he)) (by omega) (by simp only [List.length_append, List.length_take, List.length_drop, List.length_singleton]; omega); exact ⟨this.1, this.2⟩) (by simp)) d15
  walk_at "g5"
  exact q w3 _ _ E3 g3 (by have := GP (mid := []) (a := SS.length) (b := SS.length) (by simp) (by simp); simpa using this) dx3
end
/-! ### _law_true -/
theorem ltrue_spec {v : Ev} {n : Nat} {w : Wd} {a : Addr} {x : V} {c vs : List Int} {Q : VK} {E : XK} (e : w.H a = some (.lst (vs.map V.int))) (dx : Dv w x (ct c)) (ht : Trm vs.length c) (q : Q (.bl (tru vs c)) w.H) : spOf v D (n + 1) i_law_true [x, .ref a] w.H Q E := by
  refine in_law_true ?_
  unfold b_law_true
  walk_at "go"
  refine k_for_DT dx (fun i σ w' => w' = w ∧ tru vs (c.take i) = false ∧ ∃ a2, σ = [some x, some (.ref a), a2]) (fun i σ w' h => ⟨[], by rw [h.1]; exact Ex.refl w⟩) ⟨rfl, rfl, _, rfl⟩ ?_ ?_
  · rintro i d y σ w' hd dy ⟨rfl, hf, a2, rfl⟩
    rw [List.getElem?_map] at hd
    obtain ⟨t, hti, rfl⟩ := Option.map_eq_some_iff.mp hd
    obtain rfl := dy.of_int
    have hm := List.mem_of_getElem? hti
    have h1 := ht t hm
    have nxt : tru vs (c.take (i + 1)) = tv vs t := by
      rw [List.take_add_one, hti]
      show tru vs (c.take i ++ [t]) = _
      rw [tru_snoc, hf, Bool.false_or]
    walk_at "go"
    rcases Int.lt_or_le 0 t with z | z
    · rw [decide_eq_true z]
      walk_at "go"
      refine i_OG e (by omega) (by omega) ?_
      walk_at "go"
      refine k_to (fun z2 => ?_) fun z2 => ?_
      · have z2 := of_decide_eq_true z2
        walk_at "go"
        have : tru vs c = true := tru_mem hm (by rw [tv_pos z]; exact decide_eq_true z2)
        rw [this] at q; exact q
      · have z2 := of_decide_eq_false z2
        walk_at "go"
        rw [decide_eq_false (by omega : ¬ t < 0)]
        walk_at "go"
        refine k_is ⟨rfl, ?_, _, rfl⟩
        rw [nxt, tv_pos z]; exact decide_eq_false z2
    · rw [decide_eq_false (by omega : ¬ 0 < t)]
      walk_at "go"
      rw [decide_eq_true (by omega : t < 0)]
      walk_at "go"
      refine i_OG e (by omega) (by omega) ?_
      walk_at "go"
      refine kif_d (fun z2 => ?_) fun z2 => ?_
      · walk_at "go"
        have : tru vs c = true := tru_mem hm (by rw [tv_neg (by omega)]; exact decide_eq_true z2)
        rw [this] at q; exact q
      · walk_at "go"
        refine k_is ⟨rfl, ?_, _, rfl⟩
        rw [nxt, tv_neg (by omega)]; exact decide_eq_false z2
  · rintro σ w' ⟨rfl, hf, a2, rfl⟩
    walk_at "go"
    rw [List.length_map, List.take_length] at hf
    rw [hf] at q; exact q
/-! ### the law's own models -/
def bitsOf (j n : Nat) : List Int := (List.range n).map fun k => ((j / 2 ^ k % 2 : Nat) : Int)
theorem bitsOf_all : ∀ (m : List Int), (∀ x ∈ m, x = 0 ∨ x = 1) → ∃ j, j < 2 ^ m.length ∧ ∀ (k : Nat) (x : Int), m[k]? = some x → ((j / 2 ^ k % 2 : Nat) : Int) = x
  | [], _ => ⟨0, by decide, fun k x h => by simp at h⟩
  | a :: m, h => by
    obtain ⟨j, hj, hb⟩ := bitsOf_all m fun x hx => h x (by simp [hx])
    have ha := h a (by simp)
    refine ⟨a.toNat + 2 * j, ?_, fun k x e => ?_⟩
    · rw [List.length_cons, Nat.pow_succ]; omega
    · cases k with
      | zero =>
        rw [List.getElem?_cons_zero] at e
        cases e
        rw [Nat.pow_zero, Nat.div_one]; omega
      | succ k =>
        rw [List.getElem?_cons_succ] at e
        rw [← hb k x e, Nat.pow_succ, Nat.mul_comm (2 ^ k) 2, ← Nat.div_div_eq_div_mul, show (a.toNat + 2 * j) / 2 = j by omega]
theorem bitsOf_some {m : List Int} (h : ∀ x ∈ m, x = 0 ∨ x = 1) : ∃ j, j < 2 ^ m.length ∧ m = bitsOf j m.length := by
  obtain ⟨j, hj, hb⟩ := bitsOf_all m h
  refine ⟨j, hj, List.ext_getElem? fun k => ?_⟩
  unfold bitsOf
  rw [List.getElem?_map]
  rcases Nat.lt_or_ge k m.length with z | z
  · rw [List.getElem?_range z, List.getElem?_eq_getElem z, Option.map_some, hb k _ (List.getElem?_eq_getElem z)]
  · rw [List.getElem?_eq_none z, List.getElem?_eq_none (by simpa using z)]; rfl
section
variable {v : Ev} {n N : Nat} {w : Wd} {Q : VK} {E : XK}
theorem all_spec {x : V} {a : Addr} {cs : List (List Int)} {vs : List Int} (dx : Dv w x (.list (cs.map ct))) (e : w.H a = some (.lst (vs.map V.int))) (ht : ∀ c ∈ cs, Trm vs.length c) (hl : cs.length < 100000)
    (q : ∀ w', Ex [] w w' → Q (.bl (cs.all (tru vs))) w'.H) : spOf v D (n + 2) i_law_all [x, .ref a] w.H Q E := by
  refine in_law_all ?_
  unfold b_law_all
  walk_at "go"
  refine k_lsD dx fun b xs eb sb hb rb => ?_
  subst eb
  have lx : xs.length = cs.length := by rw [rb.length, List.length_map]
  refine k_lc_lst (xs := xs) fun w1 d e1 hd1 o1 => ⟨fun i w' => Ex [] w w' ∧ ∃ acc : List V, Op w' d (.lst acc) ∧ acc.length ≤ i ∧ (acc.length = 0 ↔ (cs.take i).all (tru vs) = true), ?_, ?_, ?_, ?_⟩
  · exact ⟨e1, [], o1, by simp, by simp⟩
  · exact fun i w' h => sqL (h.1.keepL sb hb)
  · rintro i y w2 hy ⟨E2, acc, o2, hla, hiff⟩
    obtain ⟨dd, hdd, dy⟩ := rb.get' hy
    rw [List.getElem?_map] at hdd
    obtain ⟨c, hc, rfl⟩ := Option.map_eq_some_iff.mp hdd
    have hi : i < cs.length := by
      rcases Nat.lt_or_ge i cs.length with h | h
      · exact h
      · rw [List.getElem?_eq_none h] at hc; cases hc
    have hm := List.mem_of_getElem? hc
    have nxt : (cs.take (i + 1)).all (tru vs) = ((cs.take i).all (tru vs) && tru vs c) := by
      rw [List.take_add_one, hc]
      simp [List.all_append]
    refine g_nm ?_
    dsimp only [wipe, List.set_cons_zero, List.set_cons_succ]
    refine k_lb1 rfl ?_
    walk_at "go"
    refine ltrue_spec (E2.kp _ _ e (by simp)) (dy.ex E2) (ht c hm) ?_
    walk_at "go"
    refine k_ld (fun hb => ?_) fun hb => ?_
    · walk_at "go"
      refine k_ap o2 (by rw [sizeLine_eq]; omega) fun w3 e3 o3 => ⟨E2.tf e3 hd1, _, o3, by simp; omega, ?_⟩
      rw [nxt]
      have : tru vs c = false := by simpa using hb
      rw [this, Bool.and_false]
      simp
    · refine ⟨E2, acc, o2, by omega, ?_⟩
      have : tru vs c = true := by simpa using hb
      rw [nxt, this, Bool.and_true]
      exact hiff
  · rintro w2 ⟨E2, acc, o2, hla, hiff⟩
    walk_at "go"
    refine f_lenO o2.h ?_
    walk_at "go"
    rw [lx, List.take_length] at hiff
    have : decide ((acc.length : Int) = 0) = cs.all (tru vs) := by
      rw [Bool.eq_iff_iff, ← hiff]
      simp
    rw [this]
    exact q w2 E2
theorem models_spec {x : V} {cs : List (List Int)} (dx : Dv w x (.list (cs.map ct))) (hn : n ≤ 16) (ht : ∀ c ∈ cs, Trm n c) (hl : cs.length < 100000)
    (q : ∀ w' y (ms : List (List Int)), Ex [] w w' → Dv w' y (.list (ms.map fun m => .list (m.map .int))) → (∀ m ∈ ms, m.length = n ∧ (∀ x ∈ m, x = 0 ∨ x = 1) ∧ ∀ c ∈ cs, tru m c = true) → (∀ m : List Int, m.length = n → (∀ x ∈ m, x = 0 ∨ x = 1) → (∀ c ∈ cs, tru m c = true) → m ∈ ms) → ms.length ≤ 2 ^ n → Q y w'.H) : spOf v D (N + 3) i_law_models [x, .int (n : Nat)] w.H Q E := by
  have p16 : (2 : Nat) ^ n ≤ 2 ^ 16 := Nat.pow_le_pow_right (by decide) hn
  refine in_law_models ?_
  unfold b_law_models
  walk_at "go"
  refine k_lstO (by simp) fun w1 r e1 hr o1 => ?_
  walk_at "go"
  refine o_shl (.inl ⟨by omega, by omega, by decide⟩) ?_
  have e2n : (1 : Int) * 2 ^ ((n : Nat) : Int).toNat = ((2 ^ n : Nat) : Int) := by rw [Int.toNat_natCast, Int.one_mul, Int.natCast_pow]; rfl
  rw [e2n]
  clear e2n
  have p17 : (2 : Nat) ^ n ≤ 65536 := p16
  generalize hM : (2 : Nat) ^ n = M at p17 q ⊢
  refine k_r1 (by omega) (by omega) ?_
  refine k_for_n M (by omega) (fun i σ w' => ∃ a3 a4 ms vs, σ = [some x, some (.int (n : Nat)), some (.ref r), a3, a4, none] ∧ Ex [] w w' ∧ Op w' r (.lst vs) ∧ Dvs w' vs (ms.map fun m => .list (m.map .int)) ∧ ms.length ≤ i ∧ (∀ m ∈ ms, m.length = n ∧ (∀ x ∈ m, x = 0 ∨ x = 1) ∧ ∀ c ∈ cs, tru m c = true) ∧ ∀ j, j < i → (∀ c ∈ cs, tru (bitsOf j n) c = true) → bitsOf j n ∈ ms)
    ⟨_, _, [], [], rfl, e1, o1, .nil, by simp, by simp, fun j hj => by omega⟩ ?_ ?_
  · rintro i σ w' hi ⟨a3, a4, ms, vs, rfl, E', o', dm, hml, hms, hcomp⟩
    walk_at "go"
    refine k_r1 (by omega) (by omega) ?_
    refine k_lc_n n (by omega) fun w2 d e2 hd2 o2 => ⟨fun j w'' => Ex [] w' w'' ∧ Op w'' d (.lst ((bitsOf i j).map V.int)), ?_, ?_, ?_⟩
    · exact ⟨e2, o2⟩
    · rintro j w'' hj ⟨E2, ob⟩
      refine g_nm ?_
      dsimp only [wipe, List.set_cons_zero, List.set_cons_succ]
      refine k_lb0 rfl ?_
      walk_at "go"
      refine o_shl (.inl ⟨by omega, by omega, by decide⟩) ?_
      have ej : (1 : Int) * 2 ^ ((j : Nat) : Int).toNat = ((2 ^ j : Nat) : Int) := by rw [Int.toNat_natCast, Int.one_mul, Int.natCast_pow]; rfl
      have pj : 0 < 2 ^ j := Nat.pow_pos (by decide)
      have pj2 : 2 ^ j ≤ 2 ^ 16 := Nat.pow_le_pow_right (by decide) (by omega)
      rw [ej]
      have pj3 : (2 : Nat) ^ j ≤ 65536 := pj2
      clear ej
      have ev : ((i : Int) / ((2 ^ j : Nat) : Int) % 2) = ((i / 2 ^ j % 2 : Nat) : Int) := by rw [Int.natCast_emod, Int.natCast_ediv]; rfl
      refine o_fdv (by generalize (2 : Nat) ^ j = M2 at pj; omega) (by generalize (2 : Nat) ^ j = M2 at pj pj3; exact log_small' (by omega) (by omega)) ?_
      walk_at "go"
      refine o_mod (by decide) ?_
      have bl : (bitsOf i j).length = j := by simp [bitsOf]
      have bs : bitsOf i (j + 1) = bitsOf i j ++ [((i / 2 ^ j % 2 : Nat) : Int)] := by unfold bitsOf; rw [List.range_succ, List.map_append]; rfl
      refine k_ap ob (by rw [List.length_map, bl, sizeLine_eq]; omega) fun w3 e3 o3 => ⟨E2.tf e3 hd2, ?_⟩
      rw [bs, List.map_append]
      rw [ev] at o3
      exact o3
    · rintro w3 ⟨E3, ob⟩
      obtain ⟨w4, eh, e4, d4⟩ := seal_lst ob (Dvs.ints _)
      rw [← eh]
      have E4 := E3.tf e4 hd2
      have bl : (bitsOf i n).length = n := by simp [bitsOf]
      have b01 : ∀ x ∈ bitsOf i n, x = 0 ∨ x = 1 := fun x hx => by
        obtain ⟨k, _, rfl⟩ := List.mem_map.mp hx
        omega
      walk_at "go"
      obtain ⟨_, eA, sA, hA⟩ := d4.ints
      cases eA
      refine all_spec ((dx.ex E').ex E4) hA (fun c hc => by rw [bl]; exact ht c hc) hl fun w5 e5 => ?_
      walk_at "go"
      refine kif_b (fun hz => ?_) fun hz => ?_
      · walk_at "go"
        have o5 := (o'.ex E4 (by simp)).ex e5 (by simp)
        refine k_m1 o5.h rfl ?_
        walk_at "go"
        refine m_app o5 (by rw [dm.length, List.length_map, sizeLine_eq]; omega) fun w6 e6 o6 => ?_
        walk_at "go"
        refine k_is ⟨_, _, ms ++ [bitsOf i n], _, rfl, ((E'.t0 E4).t0 e5).tf e6 hr, o6, ?_, by simp; omega, ?_, fun j hj hc => ?_⟩
        · rw [List.map_append]
          exact ((((dm.ex E4).ex e5).ex e6)).app (.cons ((d4.ex e5).ex e6) .nil)
        · intro m hm
          rcases List.mem_append.mp hm with hm | hm
          · exact hms m hm
          · simp only [List.mem_singleton] at hm; subst hm; exact ⟨bl, b01, fun c hc => List.all_eq_true.mp hz c hc⟩
        · rcases Nat.lt_or_ge j i with z | z
          · exact List.mem_append.mpr (.inl (hcomp j z hc))
          · rw [show j = i by omega]; simp
      · walk_at "go"
        refine k_is ⟨_, _, ms, vs, rfl, (E'.t0 E4).t0 e5, (o'.ex E4 (by simp)).ex e5 (by simp), (dm.ex E4).ex e5, by omega, hms, fun j hj hc => ?_⟩
        rcases Nat.lt_or_ge j i with z | z
        · exact hcomp j z hc
        · have : cs.all (tru (bitsOf i n)) = true := List.all_eq_true.mpr (by rw [show i = j by omega]; exact hc)
          rw [this] at hz; cases hz
  · rintro σ w' ⟨a3, a4, ms, vs, rfl, E', o', dm, hml, hms, hcomp⟩
    walk_at "go"
    obtain ⟨w4, eh, e4, d4⟩ := seal_lst o' dm
    rw [← eh]
    refine q w4 _ ms (E'.tf e4 hr) d4 hms (fun m h1 h2 h3 => ?_) hml
    obtain ⟨j, hj, e⟩ := bitsOf_some h2
    rw [h1] at hj e
    rw [hM] at hj
    rw [e] at h3 ⊢
    exact hcomp j hj h3
end
abbrev LEVEL : Nat := 8
/-- what the solver answers here -/
theorem rf_here {cs : List (List Int)} {st : List (List Int × List Nat)} (hcs : ∀ cc ∈ cs, ∀ t ∈ cc, 1 ≤ t.natAbs ∧ t.natAbs ≤ 3) (hl : cs.length ≤ 13) (e : solveF cs 3 50 259 = .refuted st) : StOk st ∧ Rf 3 cs st := by
  have I0 := Iv.begin hcs
  have e : srch 3 50 259 (beginF (sv0 cs)).1 0 (beginF (sv0 cs)).2 = .refuted st := e
  have hm : mu 3 50 0 (beginF (sv0 cs)).2 ≤ 259 := by
    show (50 + 1 - 0) * (3 + 2) + (3 + 1 - _) ≤ _
    omega
  have A0 := srch_ok 50 259 _ 0 _ I0 (Nat.zero_le _) hm
  have l0 := (srch_lim 50 50 259 259 _ 0 _ I0 (Nat.zero_le _) (Nat.zero_le _) hm hm st e).2.1
  rw [e] at A0
  have R : Rf 3 cs st := A0
  refine ⟨⟨by omega, fun p hp => ?_⟩, R⟩
  have l1 := cl_len (R.rng p hp).2 (R.rng p hp).1
  have l2 := R.hl p hp
  exact ⟨by omega, by omega, fun t ht => by have := (R.rng p hp).1 t ht; omega, fun h hh => by have := l2.2 h hh; omega⟩
theorem law_ok (v : Ev) (H : Hp) (a : Addr) (ns : List Int) (hl : ns.length ≤ 63) (hS : SqL v.K H a (ns.map V.int)) : spOf v D LEVEL i_law [.ref a] H (fun v _ => v = .bl true) fun _ _ _ => False := by
  show spOf v D LEVEL i_law [.ref a] (Wd.of H).H _ _
  refine in_law ?_
  unfold b_law
  walk_at "g5"
  refine state_spec hS hl fun w1 s c e1 g1 => ?_
  walk_at "g5"
  refine take_spec g1 (by decide) (by decide) fun w3 m e3 g3 m0 m1 => ?_
  walk_at "g5"
  refine k_r1 (by omega) (by omega) ?_
  refine k_lc_n m.toNat rfl fun w4 d e4 hd4 o4 => ⟨fun i w' => Gen w' s c ∧ ∃ (vs : List V) (cs : List (List Int)), Op w' d (.lst vs) ∧ Dvs w' vs (cs.map ct) ∧ cs.length = i ∧ ∀ cc ∈ cs, cc.length ≤ 3 ∧ ∀ t ∈ cc, 1 ≤ t.natAbs ∧ t.natAbs ≤ 3, ?_, ?_, ?_⟩
  · exact ⟨g3.ex0 e4, [], [], o4, .nil, rfl, by simp⟩
  · rintro i w' hi ⟨g', vs, cs, o', dv, hlen, hcs⟩
    have hsd := g3.fs hd4
    have cd := g3.fc hd4
    refine g_nm ?_
    dsimp only [wipe, List.set_cons_zero, List.set_cons_succ]
    refine k_lb0 rfl ?_
    walk_at "g5"
    refine take_spec g' (by decide) (by decide) fun w5 m e5 g5 m0 m1 => ?_
    walk_at "g5"
    refine clause_spec (vn := 3) g5 (by omega) (by omega) (by decide) (by decide) fun w6 x cl e6 g6 dx ht hcl => ?_
    have o6 := (o'.ex e5 (by simp [Ne.symm hsd, Ne.symm cd])).ex e6 (by simp [Ne.symm hsd, Ne.symm cd])
    have dv6 := (dv.ex e5).ex e6
    refine k_ap o6 (by rw [dv.length, List.length_map, sizeLine_eq]; omega) fun w7 e7 o7 => ⟨g6.ex e7 (by simpa using hsd) (by simpa using cd), vs ++ [x], cs ++ [cl], o7, ?_, by simp [hlen], ?_⟩
    · rw [List.map_append]
      exact (dv6.ex e7).app (.cons (dx.ex e7) .nil)
    · intro cc hcc
      rcases List.mem_append.mp hcc with hcc | hcc
      · exact hcs cc hcc
      · simp at hcc; subst hcc; exact ⟨by omega, ht⟩
  rintro w5 ⟨g5, vs, cs, o5, dv, hlen, hcs⟩
  have hsd := g3.fs hd4
  have cd := g3.fc hd4
  obtain ⟨w6, eh, e6, d6⟩ := seal_lst o5 dv
  rw [← eh]
  have g6 := g5.ex e6 (by simpa using hsd) (by simpa using cd)
  have hcsl : cs.length ≤ 9 := by omega
  walk_at "g5"
  refine take_spec g6 (by decide) (by decide) fun w7 u e7 g7 u0 u1 => ?_
  have d7 := d6.ex e7
  walk_at "g5"
  refine kif_gen2 (fun σ H => ∃ w' x cs, H = w'.H ∧ σ = [some (.ref a), some (.ref s), some x, none, none, none, none, none, none, none, none] ∧ Gen w' s c ∧ Dv w' x (.list (cs.map ct)) ∧ cs.length ≤ 13 ∧ ∀ cc ∈ cs, cc.length ≤ 3 ∧ ∀ t ∈ cc, 1 ≤ t.natAbs ∧ t.natAbs ≤ 3) (fun _ nx' hnx => ?_) (fun _ => ⟨w7, _, cs, rfl, rfl, g7, d7, by omega, hcs⟩) ?_
  · walk_at "g5"
    refine k_tup (ds := [.int 1, .int 2]) (by simp) (.cons (.int _) (.cons (.int _) .nil)) fun w8 y8 e8 d8 => ?_
    walk_at "g5"
    refine k_tup (ds := [.int 1, .int (-2)]) (by simp) (.cons (.int _) (.cons (.int _) .nil)) fun w9 y9 e9 d9 => ?_
    walk_at "g5"
    refine k_tup (ds := [.int (-1), .int 3]) (by simp) (.cons (.int _) (.cons (.int _) .nil)) fun w10 y10 e10 d10 => ?_
    walk_at "g5"
    refine k_tup (ds := [.int (-1), .int (-3)]) (by simp) (.cons (.int _) (.cons (.int _) .nil)) fun w11 y11 e11 d11 => ?_
    walk_at "g5"
    refine k_lst (ds := [[1, 2], [1, -2], [-1, 3], [-1, -3]].map ct) (by simp) (.cons (((d8.ex e9).ex e10).ex e11) (.cons ((d9.ex e10).ex e11) (.cons (d10.ex e11) (.cons d11 .nil)))) fun w12 y12 e12 d12 => ?_
    have E12 := (((e8.t0 e9).t0 e10).t0 e11).t0 e12
    walk_at "g5"
    refine o_addL (d7.ex E12) d12 (by simp [sizeLine_eq]; omega) fun w13 y13 e13 d13 => ?_
    walk_at "g5"
    refine hnx _ _ ⟨w13, y13, cs ++ [[1, 2], [1, -2], [-1, 3], [-1, -3]], rfl, rfl, (g7.ex0 E12).ex0 e13, by rw [List.map_append]; exact d13, by simp; omega, fun cc hcc => ?_⟩
    rcases List.mem_append.mp hcc with h | h
    · exact hcs cc h
    · have := List.all_eq_true.mp (show [[1, 2], [1, -2], [-1, 3], [-1, -3]].all (fun cc : List Int => decide (cc.length ≤ 3) && cc.all fun t => decide (1 ≤ t.natAbs) && decide (t.natAbs ≤ 3)) = true from rfl) cc h
      simp only [Bool.and_eq_true, decide_eq_true_eq, List.all_eq_true] at this
      exact this
  clear d7 g7 e7 d6 eh e6 dv o5 hcsl hcs g6 g5
  rintro σ H ⟨w7, x, cs, rfl, rfl, g7, dx, hcsl, hcs⟩
  have hT : ∀ cc ∈ cs, Trm 3 cc := fun cc h t ht => by have := (hcs cc h).2 t ht; exact ⟨by omega, by omega⟩
  have hcs2 : ∀ cc ∈ cs, ∀ t ∈ cc, 1 ≤ t.natAbs ∧ t.natAbs ≤ 3 := fun cc h => (hcs cc h).2
  have hcs1 : ∀ cc ∈ cs, cc.length < 3000 ∧ ∀ t ∈ cc, 1 ≤ t.natAbs ∧ t.natAbs ≤ 3 := fun cc h => ⟨by have := (hcs cc h).1; omega, (hcs cc h).2⟩
  have hno : ∀ cc ∈ cs, 0 ∉ cc := fun cc h z => by have := (hcs cc h).2 0 z; simp at this
  have sz : Sy 5 300000 (.list (cs.map ct)) := by
    refine Sy.mono (Sy.list (p := 1) (n := 1000) (m := 13) (fun d hd => ?_) (by simpa using hcsl)) (by decide) (by decide)
    obtain ⟨cc, hcc, rfl⟩ := List.mem_map.mp hd
    exact Sy.of (Sz.mono (Sz.tup (p := 0) (n := 19) (m := 4) (by simpa using fun i hi => Sz.int (by have := (hcs cc hcc).2 i hi; omega)) (by simpa using (by have := (hcs cc hcc).1; omega))) (by decide) (by decide))
  walk_at "g5"
  refine solve_spec (n := 3) (L := 50) (F := 259) dx hcs1 (by decide) (by omega) (by decide) (by decide) fun w8 y8 e8 d8 => ?_
  have g8 := g7.ex0 e8
  have dx8 := dx.ex e8
  have RH := fun st => rf_here (st := st) hcs2 hcsl
  generalize solveF cs 3 50 259 = R at d8 RH
  obtain ⟨tx, dd, eR, hR⟩ : ∃ tx dd, ansD R = .tuple [.str tx, dd] ∧ (tx = S [114, 101, 102, 117, 116, 101, 100] → ∃ st, dd = .list (st.map sd) ∧ StOk st ∧ 0 < st.length) := by
    cases R with
    | unknown => exact ⟨_, _, rfl, fun h => absurd h (by decide +kernel)⟩
    | model vs => exact ⟨_, _, rfl, fun h => absurd h (by decide +kernel)⟩
    | refuted st =>
      refine ⟨_, _, rfl, fun _ => ⟨st, rfl, (RH st rfl).1, ?_⟩⟩
      obtain ⟨pre, hs, e⟩ := (RH st rfl).2.last
      rw [e]; simp
  rw [eR] at d8
  clear eR RH R
  walk_at "g5"
  refine g_tup d8 rfl fun xs rr => ?_
  cases rr with
  | cons d1 rr =>
  cases rr with
  | cons d2 rr =>
  cases rr
  obtain rfl := d1.of_str
  walk_at "g5"
  refine k_tup (ds := []) (by simp) .nil fun w9 y9 e9 d9 => ?_
  walk_at "g5"
  refine k_lst (ds := [.int 0]) (by simp) (.cons (.int _) .nil) fun w10 y10 e10 d10 => ?_
  walk_at "g5"
  refine k_tup (ds := [.tuple [], .list [.int 0]]) (by simp) (.cons (d9.ex e10) (.cons d10 .nil)) fun w11 y11 e11 d11 => ?_
  walk_at "g5"
  refine k_lst (ds := [([], [0])].map sd) (by simp) (.cons d11 .nil) fun w12 y12 e12 d12 => ?_
  have E12 := ((e9.t0 e10).t0 e11).t0 e12
  have g12 := g8.ex0 E12
  have dx12 := dx8.ex E12
  have d212 := d2.ex E12
  walk_at "g5"
  refine kif_gen2 (fun σ H => ∃ w' xs st a8, H = w'.H ∧ σ = [some (.ref a), some (.ref s), some x, some xs, none, none, none, some (.str tx), a8, none, none] ∧ Gen w' s c ∧ Dv w' x (.list (cs.map ct)) ∧ Dv w' xs (.list (st.map sd)) ∧ StOk st ∧ 0 < st.length) (fun hz nx' hnx => ?_) (fun _ => ⟨w12, _, [([], [0])], _, rfl, rfl, g12, dx12, d12, ⟨by decide, fun p hp => by rw [List.mem_singleton.mp hp]; exact ⟨by decide, by decide, fun t ht => by simp at ht, fun h hh => by rw [List.mem_singleton.mp hh]; decide⟩⟩, by decide⟩) ?_
  · obtain ⟨st, rfl, sok, s0⟩ := hR (of_decide_eq_true hz)
    have sl := sok.1
    walk_at "g5"
    refine k_lc_mk d212 (fun i => sd (st.getD i ([], []))) (by simp; omega) (fun i d y w' R hd e dy hR => ?_) fun w13 p13 zs e13 hp13 o13 r13 => ?_
    · rw [List.getElem?_map] at hd
      obtain ⟨pp, hpp, rfl⟩ := Option.map_eq_some_iff.mp hd
      have hgp : st.getD i ([], []) = pp := by rw [List.getD_eq_getElem?_getD, hpp]; rfl
      rw [hgp] at hR
      refine g_nm ?_
      dsimp only [wipe, List.set_cons_zero, List.set_cons_succ]
      refine k_mk1 rfl ?_
      walk_at "g5"
      refine i_T (d := .tuple (pp.1.map .int)) dy (by decide) rfl fun y1 d1 => ?_
      walk_at "g5"
      obtain ⟨b1, xs1, rfl, _, eb1, _⟩ := Dv.of_tup d1
      refine RTup.tup (sqT eb1) ?_
      walk_at "g5"
      refine i_T (d := .list (pp.2.map fun k : Nat => .int (k : Int))) dy (by decide) rfl fun y2 d2 => ?_
      walk_at "g5"
      refine f_lstL d2 fun w6 y6 e6 d6 => ?_
      walk_at "g5"
      refine k_tup (by simp) (.cons (d1.ex e6) (.cons d6 .nil)) fun w7 y7 e7 d7 => ?_
      exact hR w7 y7 (e6.t0 e7) d7
    obtain ⟨w14, eh14, e14, d14⟩ := seal_lst o13 r13
    rw [← eh14]
    have E14 : Ex [] w12 w14 := e13.tf e14 hp13
    have eS : ((List.range (st.map sd).length).map fun i => sd (st.getD i ([], []))) = st.map sd := by
      rw [List.length_map]
      refine List.ext_getElem? fun k => ?_
      rw [List.getElem?_map, List.getElem?_map]
      rcases Nat.lt_or_ge k st.length with z | z
      · rw [List.getElem?_range z, List.getElem?_eq_getElem z]
        show some (sd (st.getD k ([], []))) = _
        rw [List.getD_eq_getElem?_getD, List.getElem?_eq_getElem z]; rfl
      · rw [List.getElem?_eq_none (by simpa using z), List.getElem?_eq_none z]; rfl
    rw [eS] at d14
    walk_at "g5"
    exact hnx _ _ ⟨w14, _, st, _, rfl, rfl, g12.ex0 E14, dx12.ex E14, d14, sok, s0⟩
  clear hR
  rintro σ H ⟨w13, xs, st, a8, rfl, rfl, g13, dx13, d13, sok, s0⟩
  walk_at "g5"
  refine bent_spec g13 d13 sok s0 fun w14 z d e14 g14 gd dz => ?_
  have dx14 := dx13.ex e14
  walk_at "g5"
  refine k_tup (by simp) (.cons dx14 (.cons dz .nil)) fun w15 y15 e15 d15 => ?_
  have szp : Sy 6 2000000 (.tuple [.list (cs.map ct), d]) := (Sy.tup (p := 5) (n := 300000) (m := 2) (by simp [sz, gd.sy]) (by simp)).mono (by decide) (by decide)
  walk_at "g5"
  refine f_reprY d15.dp szp (by decide) (by decide) ?_
  have dx15 := dx14.ex e15
  have dz15 := dz.ex e15
  walk_at "g5"
  refine chkref_spec dx15 dz15 (fun c hc => by have := (hcs c hc).1; omega) (by omega) gd.sh fun w16 e16 => ?_
  have dx16 := dx15.ex e16
  have dz16 := dz15.ex e16
  have fin := fun (vs : List Int) (hv : ∀ x ∈ vs, x = 0 ∨ x = 1) (h1 : ∀ c ∈ cs, tru vs c = true) => chkRef_no (d := d) hv h1 hno
  generalize hr0 : chkRef cs d = r at fin
  walk_at "g5"
  refine f_reprS (.bl _) (Sz.bool r) (by decide) (by decide) ?_
  walk_at "g5"
  refine lright_spec dx16 dz16 (fun c hc => by have := (hcs c hc).1; omega) (by omega) gd.sh fun w17 e17 => ?_
  rw [hr0]
  have dx17 := dx16.ex e17
  have dz17 := dz16.ex e17
  walk_at "g5"
  refine f_reprS (.bl _) (Sz.bool r) (by decide) (by decide) ?_
  walk_at "g5"
  refine k_tup (by simp) (.cons dx17 (.cons dz17 .nil)) fun w18 y18 e18 d18 => ?_
  walk_at "g5"
  refine f_reprY d18.dp szp (by decide) (by decide) ?_
  walk_at "g5"
  refine k_or (fun _ => rfl) fun hr => ?_
  have hr : r = true := by simpa using hr
  have dx18 := dx17.ex e18
  walk_at "g5"
  refine models_spec (n := 3) dx18 (by decide) hT (by omega) fun w19 ym ms e19 dm hms hcomp hml => ?_
  have mz : ms = [] := by
    cases ms with
    | nil => rfl
    | cons m r =>
      have := hms m (by simp)
      exact (fin m this.2.1 this.2.2 hr).elim
  subst mz
  walk_at "g5"
  refine k_lst (by simp) .nil fun w20 y20 e20 d20 => ?_
  refine c_eqC (dm.ex e20).dp d20.dp (Cn.list (p := 0) (by simp)) (by decide) ?_
  rfl
end LK

namespace LK
open L2 DI
open PySem.Spec
open PyProof.Rows hiding St
open PySem

/-- the reading's environment -/
def evOf (K : PySem.W.Frag) (C : List Addr) (G : List V) : Ev := ⟨K, fun i => C.getD i 0, fun i => G.getD i .non, fun _ _ _ _ _ => False, [], none⟩
theorem fin {l : PySem.W.OpenLaw} {w : World} {K : PySem.W.Frag} {h : Heap} {mg : Str → Option Value} {fa : Addr} {f0 f1 f2 f3 f4 f5 f6 f7 f8 f9 f10 f11 f12 f13 f14 f15 f16 f17 f18 f19 f20 f21 f22 f23 f24 f25 f26 f27 f28 f29 f30 f31 f32 C0 : Addr}
    
    (X : K.In h) (G : h.Ns mainGlobals mg) (hfa : mg "law" = some (.ref fa))
    {od0 an0 : Option Addr} {sl0 : Array (Option Value)} {oc0 kV0 dc0 pm0 cd0 ct0 : Value}
    {od1 an1 : Option Addr} {sl1 : Array (Option Value)} {oc1 kV1 dc1 pm1 cd1 ct1 : Value}
    {od2 an2 : Option Addr} {sl2 : Array (Option Value)} {oc2 kV2 dc2 pm2 cd2 ct2 : Value}
    {od3 an3 : Option Addr} {sl3 : Array (Option Value)} {oc3 kV3 dc3 pm3 cd3 ct3 : Value}
    {od4 an4 : Option Addr} {sl4 : Array (Option Value)} {oc4 kV4 dc4 pm4 cd4 ct4 : Value}
    {od5 an5 : Option Addr} {sl5 : Array (Option Value)} {oc5 kV5 dc5 pm5 cd5 ct5 : Value}
    {od6 an6 : Option Addr} {sl6 : Array (Option Value)} {oc6 kV6 dc6 pm6 cd6 ct6 : Value}
    {od7 an7 : Option Addr} {sl7 : Array (Option Value)} {oc7 kV7 dc7 pm7 cd7 ct7 : Value}
    {od8 an8 : Option Addr} {sl8 : Array (Option Value)} {oc8 kV8 dc8 pm8 cd8 ct8 : Value}
    {od9 an9 : Option Addr} {sl9 : Array (Option Value)} {oc9 kV9 dc9 pm9 cd9 ct9 : Value}
    {od10 an10 : Option Addr} {sl10 : Array (Option Value)} {oc10 kV10 dc10 pm10 cd10 ct10 : Value}
    {od11 an11 : Option Addr} {sl11 : Array (Option Value)} {oc11 kV11 dc11 pm11 cd11 ct11 : Value}
    {od12 an12 : Option Addr} {sl12 : Array (Option Value)} {oc12 kV12 dc12 pm12 cd12 ct12 : Value}
    {od13 an13 : Option Addr} {sl13 : Array (Option Value)} {oc13 kV13 dc13 pm13 cd13 ct13 : Value}
    {od14 an14 : Option Addr} {sl14 : Array (Option Value)} {oc14 kV14 dc14 pm14 cd14 ct14 : Value}
    {od15 an15 : Option Addr} {sl15 : Array (Option Value)} {oc15 kV15 dc15 pm15 cd15 ct15 : Value}
    {od16 an16 : Option Addr} {sl16 : Array (Option Value)} {oc16 kV16 dc16 pm16 cd16 ct16 : Value}
    {od17 an17 : Option Addr} {sl17 : Array (Option Value)} {oc17 kV17 dc17 pm17 cd17 ct17 : Value}
    {od18 an18 : Option Addr} {sl18 : Array (Option Value)} {oc18 kV18 dc18 pm18 cd18 ct18 : Value}
    {od19 an19 : Option Addr} {sl19 : Array (Option Value)} {oc19 kV19 dc19 pm19 cd19 ct19 : Value}
    {od20 an20 : Option Addr} {sl20 : Array (Option Value)} {oc20 kV20 dc20 pm20 cd20 ct20 : Value}
    {od21 an21 : Option Addr} {sl21 : Array (Option Value)} {oc21 kV21 dc21 pm21 cd21 ct21 : Value}
    {od22 an22 : Option Addr} {sl22 : Array (Option Value)} {oc22 kV22 dc22 pm22 cd22 ct22 : Value}
    {od23 an23 : Option Addr} {sl23 : Array (Option Value)} {oc23 kV23 dc23 pm23 cd23 ct23 : Value}
    {od24 an24 : Option Addr} {sl24 : Array (Option Value)} {oc24 kV24 dc24 pm24 cd24 ct24 : Value}
    {od25 an25 : Option Addr} {sl25 : Array (Option Value)} {oc25 kV25 dc25 pm25 cd25 ct25 : Value}
    {od26 an26 : Option Addr} {sl26 : Array (Option Value)} {oc26 kV26 dc26 pm26 cd26 ct26 : Value}
    {od27 an27 : Option Addr} {sl27 : Array (Option Value)} {oc27 kV27 dc27 pm27 cd27 ct27 : Value}
    {od28 an28 : Option Addr} {sl28 : Array (Option Value)} {oc28 kV28 dc28 pm28 cd28 ct28 : Value}
    {od29 an29 : Option Addr} {sl29 : Array (Option Value)} {oc29 kV29 dc29 pm29 cd29 ct29 : Value}
    {od30 an30 : Option Addr} {sl30 : Array (Option Value)} {oc30 kV30 dc30 pm30 cd30 ct30 : Value}
    {od31 an31 : Option Addr} {sl31 : Array (Option Value)} {oc31 kV31 dc31 pm31 cd31 ct31 : Value}
    {od32 an32 : Option Addr} {sl32 : Array (Option Value)} {oc32 kV32 dc32 pm32 cd32 ct32 : Value}
    (a0 : PySem.W.nsIn K mainGlobals "open_terms" = some (some (.ref f0)))
    (l0 : K.lookup f0 = some ⟨oc0, od0, .func (PySem.W.fnOf "open_terms" "open_terms" (defArgs s_open_terms) (defBody s_open_terms) (defScope s_open_terms) .none kV0 dc0 pm0 an0 cd0 ct0), sl0⟩)
    (c0 : PySem.W.codeIn K cd0 "open_terms" = true)
    (k0 : PySem.W.keepIn K (.ref f0) = true)
    (a1 : PySem.W.nsIn K mainGlobals "check_step" = some (some (.ref f1)))
    (l1 : K.lookup f1 = some ⟨oc1, od1, .func (PySem.W.fnOf "check_step" "check_step" (defArgs s_check_step) (defBody s_check_step) (defScope s_check_step) .none kV1 dc1 pm1 an1 cd1 ct1), sl1⟩)
    (c1 : PySem.W.codeIn K cd1 "check_step" = true)
    (k1 : PySem.W.keepIn K (.ref f1) = true)
    (a2 : PySem.W.nsIn K mainGlobals "is_integer" = some (some (.ref f2)))
    (l2 : K.lookup f2 = some ⟨oc2, od2, .func (PySem.W.fnOf "is_integer" "is_integer" (defArgs s_is_integer) (defBody s_is_integer) (defScope s_is_integer) .none kV2 dc2 pm2 an2 cd2 ct2), sl2⟩)
    (c2 : PySem.W.codeIn K cd2 "is_integer" = true)
    (k2 : PySem.W.keepIn K (.ref f2) = true)
    (a3 : PySem.W.nsIn K mainGlobals "is_row" = some (some (.ref f3)))
    (l3 : K.lookup f3 = some ⟨oc3, od3, .func (PySem.W.fnOf "is_row" "is_row" (defArgs s_is_row) (defBody s_is_row) (defScope s_is_row) .none kV3 dc3 pm3 an3 cd3 ct3), sl3⟩)
    (c3 : PySem.W.codeIn K cd3 "is_row" = true)
    (k3 : PySem.W.keepIn K (.ref f3) = true)
    (a4 : PySem.W.nsIn K mainGlobals "are_integers" = some (some (.ref f4)))
    (l4 : K.lookup f4 = some ⟨oc4, od4, .func (PySem.W.fnOf "are_integers" "are_integers" (defArgs s_are_integers) (defBody s_are_integers) (defScope s_are_integers) .none kV4 dc4 pm4 an4 cd4 ct4), sl4⟩)
    (c4 : PySem.W.codeIn K cd4 "are_integers" = true)
    (k4 : PySem.W.keepIn K (.ref f4) = true)
    (a5 : PySem.W.nsIn K mainGlobals "is_step" = some (some (.ref f5)))
    (l5 : K.lookup f5 = some ⟨oc5, od5, .func (PySem.W.fnOf "is_step" "is_step" (defArgs s_is_step) (defBody s_is_step) (defScope s_is_step) .none kV5 dc5 pm5 an5 cd5 ct5), sl5⟩)
    (c5 : PySem.W.codeIn K cd5 "is_step" = true)
    (k5 : PySem.W.keepIn K (.ref f5) = true)
    (a6 : PySem.W.nsIn K mainGlobals "check_refutation" = some (some (.ref f6)))
    (l6 : K.lookup f6 = some ⟨oc6, od6, .func (PySem.W.fnOf "check_refutation" "check_refutation" (defArgs s_check_refutation) (defBody s_check_refutation) (defScope s_check_refutation) .none kV6 dc6 pm6 an6 cd6 ct6), sl6⟩)
    (c6 : PySem.W.codeIn K cd6 "check_refutation" = true)
    (k6 : PySem.W.keepIn K (.ref f6) = true)
    (a7 : PySem.W.nsIn K mainGlobals "distinct" = some (some (.ref f7)))
    (l7 : K.lookup f7 = some ⟨oc7, od7, .func (PySem.W.fnOf "distinct" "distinct" (defArgs s_distinct) (defBody s_distinct) (defScope s_distinct) .none kV7 dc7 pm7 an7 cd7 ct7), sl7⟩)
    (c7 : PySem.W.codeIn K cd7 "distinct" = true)
    (k7 : PySem.W.keepIn K (.ref f7) = true)
    (a8 : PySem.W.findIn K (.ref C0) "__init__" = some (some (.ref f8)))
    (i8 : PySem.W.isFn K (.ref f8) = true)
    (l8 : K.lookup f8 = some ⟨oc8, od8, .func (PySem.W.fnOf "__init__" "Solver.__init__" (defArgs s_Solver_init) (defBody s_Solver_init) (defScope s_Solver_init) .none kV8 dc8 pm8 an8 cd8 ct8), sl8⟩)
    (c8 : PySem.W.codeIn K cd8 "Solver.__init__" = true)
    (k8 : PySem.W.keepIn K (.ref f8) = true)
    (a9 : PySem.W.findIn K (.ref C0) "note" = some (some (.ref f9)))
    (i9 : PySem.W.isFn K (.ref f9) = true)
    (l9 : K.lookup f9 = some ⟨oc9, od9, .func (PySem.W.fnOf "note" "Solver.note" (defArgs s_Solver_note) (defBody s_Solver_note) (defScope s_Solver_note) .none kV9 dc9 pm9 an9 cd9 ct9), sl9⟩)
    (c9 : PySem.W.codeIn K cd9 "Solver.note" = true)
    (k9 : PySem.W.keepIn K (.ref f9) = true)
    (a10 : PySem.W.findIn K (.ref C0) "add" = some (some (.ref f10)))
    (i10 : PySem.W.isFn K (.ref f10) = true)
    (l10 : K.lookup f10 = some ⟨oc10, od10, .func (PySem.W.fnOf "add" "Solver.add" (defArgs s_Solver_add) (defBody s_Solver_add) (defScope s_Solver_add) .none kV10 dc10 pm10 an10 cd10 ct10), sl10⟩)
    (c10 : PySem.W.codeIn K cd10 "Solver.add" = true)
    (k10 : PySem.W.keepIn K (.ref f10) = true)
    (a11 : PySem.W.findIn K (.ref C0) "open_terms" = some (some (.ref f11)))
    (i11 : PySem.W.isFn K (.ref f11) = true)
    (l11 : K.lookup f11 = some ⟨oc11, od11, .func (PySem.W.fnOf "open_terms" "Solver.open_terms" (defArgs s_Solver_open_terms) (defBody s_Solver_open_terms) (defScope s_Solver_open_terms) .none kV11 dc11 pm11 an11 cd11 ct11), sl11⟩)
    (c11 : PySem.W.codeIn K cd11 "Solver.open_terms" = true)
    (k11 : PySem.W.keepIn K (.ref f11) = true)
    (a12 : PySem.W.findIn K (.ref C0) "look" = some (some (.ref f12)))
    (i12 : PySem.W.isFn K (.ref f12) = true)
    (l12 : K.lookup f12 = some ⟨oc12, od12, .func (PySem.W.fnOf "look" "Solver.look" (defArgs s_Solver_look) (defBody s_Solver_look) (defScope s_Solver_look) .none kV12 dc12 pm12 an12 cd12 ct12), sl12⟩)
    (c12 : PySem.W.codeIn K cd12 "Solver.look" = true)
    (k12 : PySem.W.keepIn K (.ref f12) = true)
    (a13 : PySem.W.findIn K (.ref C0) "begin" = some (some (.ref f13)))
    (i13 : PySem.W.isFn K (.ref f13) = true)
    (l13 : K.lookup f13 = some ⟨oc13, od13, .func (PySem.W.fnOf "begin" "Solver.begin" (defArgs s_Solver_begin) (defBody s_Solver_begin) (defScope s_Solver_begin) .none kV13 dc13 pm13 an13 cd13 ct13), sl13⟩)
    (c13 : PySem.W.codeIn K cd13 "Solver.begin" = true)
    (k13 : PySem.W.keepIn K (.ref f13) = true)
    (a14 : PySem.W.findIn K (.ref C0) "propagate" = some (some (.ref f14)))
    (i14 : PySem.W.isFn K (.ref f14) = true)
    (l14 : K.lookup f14 = some ⟨oc14, od14, .func (PySem.W.fnOf "propagate" "Solver.propagate" (defArgs s_Solver_propagate) (defBody s_Solver_propagate) (defScope s_Solver_propagate) .none kV14 dc14 pm14 an14 cd14 ct14), sl14⟩)
    (c14 : PySem.W.codeIn K cd14 "Solver.propagate" = true)
    (k14 : PySem.W.keepIn K (.ref f14) = true)
    (a15 : PySem.W.findIn K (.ref C0) "marked_terms" = some (some (.ref f15)))
    (i15 : PySem.W.isFn K (.ref f15) = true)
    (l15 : K.lookup f15 = some ⟨oc15, od15, .func (PySem.W.fnOf "marked_terms" "Solver.marked_terms" (defArgs s_Solver_marked_terms) (defBody s_Solver_marked_terms) (defScope s_Solver_marked_terms) .none kV15 dc15 pm15 an15 cd15 ct15), sl15⟩)
    (c15 : PySem.W.codeIn K cd15 "Solver.marked_terms" = true)
    (k15 : PySem.W.keepIn K (.ref f15) = true)
    (a16 : PySem.W.findIn K (.ref C0) "learn" = some (some (.ref f16)))
    (i16 : PySem.W.isFn K (.ref f16) = true)
    (l16 : K.lookup f16 = some ⟨oc16, od16, .func (PySem.W.fnOf "learn" "Solver.learn" (defArgs s_Solver_learn) (defBody s_Solver_learn) (defScope s_Solver_learn) .none kV16 dc16 pm16 an16 cd16 ct16), sl16⟩)
    (c16 : PySem.W.codeIn K cd16 "Solver.learn" = true)
    (k16 : PySem.W.keepIn K (.ref f16) = true)
    (a17 : PySem.W.findIn K (.ref C0) "cut" = some (some (.ref f17)))
    (i17 : PySem.W.isFn K (.ref f17) = true)
    (l17 : K.lookup f17 = some ⟨oc17, od17, .func (PySem.W.fnOf "cut" "Solver.cut" (defArgs s_Solver_cut) (defBody s_Solver_cut) (defScope s_Solver_cut) .none kV17 dc17 pm17 an17 cd17 ct17), sl17⟩)
    (c17 : PySem.W.codeIn K cd17 "Solver.cut" = true)
    (k17 : PySem.W.keepIn K (.ref f17) = true)
    (a18 : PySem.W.findIn K (.ref C0) "decide" = some (some (.ref f18)))
    (i18 : PySem.W.isFn K (.ref f18) = true)
    (l18 : K.lookup f18 = some ⟨oc18, od18, .func (PySem.W.fnOf "decide" "Solver.decide" (defArgs s_Solver_decide) (defBody s_Solver_decide) (defScope s_Solver_decide) .none kV18 dc18 pm18 an18 cd18 ct18), sl18⟩)
    (c18 : PySem.W.codeIn K cd18 "Solver.decide" = true)
    (k18 : PySem.W.keepIn K (.ref f18) = true)
    (a19 : PySem.W.findIn K (.ref C0) "assignment" = some (some (.ref f19)))
    (i19 : PySem.W.isFn K (.ref f19) = true)
    (l19 : K.lookup f19 = some ⟨oc19, od19, .func (PySem.W.fnOf "assignment" "Solver.assignment" (defArgs s_Solver_assignment) (defBody s_Solver_assignment) (defScope s_Solver_assignment) .none kV19 dc19 pm19 an19 cd19 ct19), sl19⟩)
    (c19 : PySem.W.codeIn K cd19 "Solver.assignment" = true)
    (k19 : PySem.W.keepIn K (.ref f19) = true)
    (a20 : PySem.W.nsIn K mainGlobals "solve" = some (some (.ref f20)))
    (l20 : K.lookup f20 = some ⟨oc20, od20, .func (PySem.W.fnOf "solve" "solve" (defArgs s_solve) (defBody s_solve) (defScope s_solve) .none kV20 dc20 pm20 an20 cd20 ct20), sl20⟩)
    (c20 : PySem.W.codeIn K cd20 "solve" = true)
    (k20 : PySem.W.keepIn K (.ref f20) = true)
    (a21 : PySem.W.nsIn K mainGlobals "_law_state" = some (some (.ref f21)))
    (l21 : K.lookup f21 = some ⟨oc21, od21, .func (PySem.W.fnOf "_law_state" "_law_state" (defArgs s_law_state) (defBody s_law_state) (defScope s_law_state) .none kV21 dc21 pm21 an21 cd21 ct21), sl21⟩)
    (c21 : PySem.W.codeIn K cd21 "_law_state" = true)
    (k21 : PySem.W.keepIn K (.ref f21) = true)
    (a22 : PySem.W.nsIn K mainGlobals "_law_take" = some (some (.ref f22)))
    (l22 : K.lookup f22 = some ⟨oc22, od22, .func (PySem.W.fnOf "_law_take" "_law_take" (defArgs s_law_take) (defBody s_law_take) (defScope s_law_take) .none kV22 dc22 pm22 an22 cd22 ct22), sl22⟩)
    (c22 : PySem.W.codeIn K cd22 "_law_take" = true)
    (k22 : PySem.W.keepIn K (.ref f22) = true)
    (a23 : PySem.W.nsIn K mainGlobals "_law_clause" = some (some (.ref f23)))
    (l23 : K.lookup f23 = some ⟨oc23, od23, .func (PySem.W.fnOf "_law_clause" "_law_clause" (defArgs s_law_clause) (defBody s_law_clause) (defScope s_law_clause) .none kV23 dc23 pm23 an23 cd23 ct23), sl23⟩)
    (c23 : PySem.W.codeIn K cd23 "_law_clause" = true)
    (k23 : PySem.W.keepIn K (.ref f23) = true)
    (a24 : PySem.W.nsIn K mainGlobals "_law_true" = some (some (.ref f24)))
    (l24 : K.lookup f24 = some ⟨oc24, od24, .func (PySem.W.fnOf "_law_true" "_law_true" (defArgs s_law_true) (defBody s_law_true) (defScope s_law_true) .none kV24 dc24 pm24 an24 cd24 ct24), sl24⟩)
    (c24 : PySem.W.codeIn K cd24 "_law_true" = true)
    (k24 : PySem.W.keepIn K (.ref f24) = true)
    (a25 : PySem.W.nsIn K mainGlobals "_law_all" = some (some (.ref f25)))
    (l25 : K.lookup f25 = some ⟨oc25, od25, .func (PySem.W.fnOf "_law_all" "_law_all" (defArgs s_law_all) (defBody s_law_all) (defScope s_law_all) .none kV25 dc25 pm25 an25 cd25 ct25), sl25⟩)
    (c25 : PySem.W.codeIn K cd25 "_law_all" = true)
    (k25 : PySem.W.keepIn K (.ref f25) = true)
    (a26 : PySem.W.nsIn K mainGlobals "_law_models" = some (some (.ref f26)))
    (l26 : K.lookup f26 = some ⟨oc26, od26, .func (PySem.W.fnOf "_law_models" "_law_models" (defArgs s_law_models) (defBody s_law_models) (defScope s_law_models) .none kV26 dc26 pm26 an26 cd26 ct26), sl26⟩)
    (c26 : PySem.W.codeIn K cd26 "_law_models" = true)
    (k26 : PySem.W.keepIn K (.ref f26) = true)
    (a27 : PySem.W.nsIn K mainGlobals "_law_ints" = some (some (.ref f27)))
    (l27 : K.lookup f27 = some ⟨oc27, od27, .func (PySem.W.fnOf "_law_ints" "_law_ints" (defArgs s_law_ints) (defBody s_law_ints) (defScope s_law_ints) .none kV27 dc27 pm27 an27 cd27 ct27), sl27⟩)
    (c27 : PySem.W.codeIn K cd27 "_law_ints" = true)
    (k27 : PySem.W.keepIn K (.ref f27) = true)
    (a28 : PySem.W.nsIn K mainGlobals "_law_step" = some (some (.ref f28)))
    (l28 : K.lookup f28 = some ⟨oc28, od28, .func (PySem.W.fnOf "_law_step" "_law_step" (defArgs s_law_step) (defBody s_law_step) (defScope s_law_step) .none kV28 dc28 pm28 an28 cd28 ct28), sl28⟩)
    (c28 : PySem.W.codeIn K cd28 "_law_step" = true)
    (k28 : PySem.W.keepIn K (.ref f28) = true)
    (a29 : PySem.W.nsIn K mainGlobals "_law_right" = some (some (.ref f29)))
    (l29 : K.lookup f29 = some ⟨oc29, od29, .func (PySem.W.fnOf "_law_right" "_law_right" (defArgs s_law_right) (defBody s_law_right) (defScope s_law_right) .none kV29 dc29 pm29 an29 cd29 ct29), sl29⟩)
    (c29 : PySem.W.codeIn K cd29 "_law_right" = true)
    (k29 : PySem.W.keepIn K (.ref f29) = true)
    (a30 : PySem.W.nsIn K mainGlobals "_law_strange" = some (some (.ref f30)))
    (l30 : K.lookup f30 = some ⟨oc30, od30, .func (PySem.W.fnOf "_law_strange" "_law_strange" (defArgs s_law_strange) (defBody s_law_strange) (defScope s_law_strange) .none kV30 dc30 pm30 an30 cd30 ct30), sl30⟩)
    (c30 : PySem.W.codeIn K cd30 "_law_strange" = true)
    (k30 : PySem.W.keepIn K (.ref f30) = true)
    (a31 : PySem.W.nsIn K mainGlobals "_law_bent" = some (some (.ref f31)))
    (l31 : K.lookup f31 = some ⟨oc31, od31, .func (PySem.W.fnOf "_law_bent" "_law_bent" (defArgs s_law_bent) (defBody s_law_bent) (defScope s_law_bent) .none kV31 dc31 pm31 an31 cd31 ct31), sl31⟩)
    (c31 : PySem.W.codeIn K cd31 "_law_bent" = true)
    (k31 : PySem.W.keepIn K (.ref f31) = true)
    (a32 : PySem.W.nsIn K mainGlobals "law" = some (some (.ref f32)))
    (l32 : K.lookup f32 = some ⟨oc32, od32, .func (PySem.W.fnOf "law" "law" (defArgs s_law) (defBody s_law) (defScope s_law) .none kV32 dc32 pm32 an32 cd32 ct32), sl32⟩)
    (c32 : PySem.W.codeIn K cd32 "law" = true)
    (k32 : PySem.W.keepIn K (.ref f32) = true)
    (aC0 : PySem.W.nsIn K mainGlobals "Solver" = some (some (.ref C0)))
    (pg0 : PySem.W.plainGet K C0 Str.empty = true)
    (hd0 : PySem.W.hasDictIn K C0 = true)
    (po0 : PySem.W.plainOver K C0 = true)
    (sa0 : PySem.W.findIn K (.ref C0) "__setattr__" = some (some (.builtin "object.__setattr__")))
    (mk0 : PySem.W.makesIn K C0 = true)
    (kc0 : PySem.W.keepIn K (.ref C0) = true)
    (n0 : PySem.W.findIn K (.ref C0) "clauses" = some none)
    (n1 : PySem.W.findIn K (.ref C0) "variables" = some none)
    (n2 : PySem.W.findIn K (.ref C0) "trail" = some none)
    (n3 : PySem.W.findIn K (.ref C0) "reasons" = some none)
    (n4 : PySem.W.findIn K (.ref C0) "handled" = some none)
    (n5 : PySem.W.findIn K (.ref C0) "steps" = some none)
    (n6 : PySem.W.findIn K (.ref C0) "users" = some none)
    (z0 : PySem.W.nsIn K mainGlobals "len" = some none)
    (z1 : PySem.W.nsIn K mainGlobals "int" = some none)
    (z2 : PySem.W.nsIn K mainGlobals "str" = some none)
    (z3 : PySem.W.nsIn K mainGlobals "abs" = some none)
    (z4 : PySem.W.nsIn K mainGlobals "max" = some none)
    (z5 : PySem.W.nsIn K mainGlobals "min" = some none)
    (z6 : PySem.W.nsIn K mainGlobals "sum" = some none)
    (z7 : PySem.W.nsIn K mainGlobals "list" = some none)
    (z8 : PySem.W.nsIn K mainGlobals "tuple" = some none)
    (z9 : PySem.W.nsIn K mainGlobals "sorted" = some none)
    (z10 : PySem.W.nsIn K mainGlobals "all" = some none)
    (z11 : PySem.W.nsIn K mainGlobals "any" = some none)
    (z12 : PySem.W.nsIn K mainGlobals "isinstance" = some none)
    (z13 : PySem.W.nsIn K mainGlobals "repr" = some none)
    (z14 : PySem.W.nsIn K mainGlobals "bool" = some none)
    (z15 : PySem.W.nsIn K mainGlobals "dict" = some none)
    (z16 : PySem.W.nsIn K mainGlobals "range" = some none)
    (z17 : PySem.W.nsIn K mainGlobals "enumerate" = some none)
    (z18 : PySem.W.nsIn K mainGlobals "zip" = some none)
    (z19 : PySem.W.nsIn K mainGlobals "reversed" = some none)
    (z20 : PySem.W.nsIn K mainGlobals "super" = some none)
    (z21 : PySem.W.nsIn K mainGlobals "ValueError" = some none)
    : ∃ (fd : FuncData) (sp : Sp), (∀ (s : Shared) (u : Value), K.In s.heap → BindsTo s fd ⟨[u], []⟩ [("_law_script", u)]) ∧
      (∀ base : Heap, SysM base → FnG l.prog w K mg base (2 * LEVEL) fa fd ["_law_script"] sp) ∧
      ∀ (H : Hp) (a : Addr) (ns : List Int), ns.length ≤ 63 → SqL K H a (ns.map V.int) → sp [.ref a] H (fun v _ => v = .bl true) fun _ _ _ => False := by
  have e : f32 = fa := by
    have e := (PySem.W.mg_of X G a32).symm.trans hfa
    injection e with e; injection e
  subst e
  have B : DI.Base l.prog mg (evOf K [C0] []) (fun i => ([f0, f1, f2, f3, f4, f5, f6, f7, f8, f9, f10, f11, f12, f13, f14, f15, f16, f17, f18, f19, f20, f21, f22, f23, f24, f25, f26, f27, f28, f29, f30, f31, f32] : List Addr).getD i 0) ck := by
    refine ⟨?_, ?_, ?_, ?_, ?_, ?_, ?_, ?_, rfl, rfl⟩
    · exact allL (l := ck.calls) ⟨⟨PySem.W.mg_of X G a0, k0⟩, ⟨PySem.W.mg_of X G a3, k3⟩, ⟨PySem.W.mg_of X G a2, k2⟩, ⟨PySem.W.mg_of X G a4, k4⟩, ⟨PySem.W.mg_of X G a5, k5⟩, ⟨PySem.W.mg_of X G a1, k1⟩, ⟨PySem.W.mg_of X G a7, k7⟩, ⟨PySem.W.mg_of X G a22, k22⟩, ⟨PySem.W.mg_of X G a24, k24⟩, ⟨PySem.W.mg_of X G a25, k25⟩, ⟨PySem.W.mg_of X G a27, k27⟩, ⟨PySem.W.mg_of X G a28, k28⟩, ⟨PySem.W.mg_of X G a30, k30⟩, ⟨PySem.W.mg_of X G a21, k21⟩, ⟨PySem.W.mg_of X G a23, k23⟩, ⟨PySem.W.mg_of X G a20, k20⟩, ⟨PySem.W.mg_of X G a31, k31⟩, ⟨PySem.W.mg_of X G a6, k6⟩, ⟨PySem.W.mg_of X G a29, k29⟩, ⟨PySem.W.mg_of X G a26, k26⟩, ⟨PySem.W.mg_of X G a32, k32⟩, trivial⟩
    · exact allL (l := ck.mths) ⟨⟨⟨pg0, hd0, po0, sa0⟩, ⟨a9, i9, k9⟩⟩, ⟨⟨pg0, hd0, po0, sa0⟩, ⟨a11, i11, k11⟩⟩, ⟨⟨pg0, hd0, po0, sa0⟩, ⟨a10, i10, k10⟩⟩, ⟨⟨pg0, hd0, po0, sa0⟩, ⟨a12, i12, k12⟩⟩, ⟨⟨pg0, hd0, po0, sa0⟩, ⟨a15, i15, k15⟩⟩, ⟨⟨pg0, hd0, po0, sa0⟩, ⟨a17, i17, k17⟩⟩, ⟨⟨pg0, hd0, po0, sa0⟩, ⟨a13, i13, k13⟩⟩, ⟨⟨pg0, hd0, po0, sa0⟩, ⟨a14, i14, k14⟩⟩, ⟨⟨pg0, hd0, po0, sa0⟩, ⟨a16, i16, k16⟩⟩, ⟨⟨pg0, hd0, po0, sa0⟩, ⟨a18, i18, k18⟩⟩, ⟨⟨pg0, hd0, po0, sa0⟩, ⟨a19, i19, k19⟩⟩, trivial⟩
    · exact allL (l := ck.mks) ⟨⟨PySem.W.mg_of X G aC0, ⟨mk0, a8, i8, kc0⟩⟩, trivial⟩
    · exact allL (l := ck.flds) ⟨⟨⟨pg0, hd0, po0, sa0⟩, n0⟩, ⟨⟨pg0, hd0, po0, sa0⟩, n1⟩, ⟨⟨pg0, hd0, po0, sa0⟩, n2⟩, ⟨⟨pg0, hd0, po0, sa0⟩, n3⟩, ⟨⟨pg0, hd0, po0, sa0⟩, n4⟩, ⟨⟨pg0, hd0, po0, sa0⟩, n5⟩, ⟨⟨pg0, hd0, po0, sa0⟩, n6⟩, trivial⟩
    · exact allL (l := ck.gls) trivial
    · exact allL (l := btNames) ⟨PySem.W.mg_none_of X G z0, PySem.W.mg_none_of X G z1, PySem.W.mg_none_of X G z2, PySem.W.mg_none_of X G z3, PySem.W.mg_none_of X G z4, PySem.W.mg_none_of X G z5, PySem.W.mg_none_of X G z6, PySem.W.mg_none_of X G z7, PySem.W.mg_none_of X G z8, PySem.W.mg_none_of X G z9, PySem.W.mg_none_of X G z10, PySem.W.mg_none_of X G z11, PySem.W.mg_none_of X G z12, PySem.W.mg_none_of X G z13, PySem.W.mg_none_of X G z14, PySem.W.mg_none_of X G z15, PySem.W.mg_none_of X G z16, PySem.W.mg_none_of X G z17, PySem.W.mg_none_of X G z18, PySem.W.mg_none_of X G z19, PySem.W.mg_none_of X G z20, PySem.W.mg_none_of X G z21, trivial⟩
    · exact allL (l := ck.exs) trivial
    · exact allL (l := ck.bases) trivial
  have A : DfAll l.prog w mg K ck Dl [f0, f1, f2, f3, f4, f5, f6, f7, f8, f9, f10, f11, f12, f13, f14, f15, f16, f17, f18, f19, f20, f21, f22, f23, f24, f25, f26, f27, f28, f29, f30, f31, f32] :=
    .cons (dfOk_mk (st := s_open_terms) l0 c0 sc_open_terms ck_open_terms fun _ _ _ _ _ _ us ws hl hw => match us, ws, hl, hw with | [_, _], [], _, _ => rfl) <|
    .cons (dfOk_mk (st := s_check_step) l1 c1 sc_check_step ck_check_step fun _ _ _ _ _ _ us ws hl hw => match us, ws, hl, hw with | [_, _, _], [], _, _ => rfl) <|
    .cons (dfOk_mk (st := s_is_integer) l2 c2 sc_is_integer ck_is_integer fun _ _ _ _ _ _ us ws hl hw => match us, ws, hl, hw with | [_], [], _, _ => rfl) <|
    .cons (dfOk_mk (st := s_is_row) l3 c3 sc_is_row ck_is_row fun _ _ _ _ _ _ us ws hl hw => match us, ws, hl, hw with | [_], [], _, _ => rfl) <|
    .cons (dfOk_mk (st := s_are_integers) l4 c4 sc_are_integers ck_are_integers fun _ _ _ _ _ _ us ws hl hw => match us, ws, hl, hw with | [_], [], _, _ => rfl) <|
    .cons (dfOk_mk (st := s_is_step) l5 c5 sc_is_step ck_is_step fun _ _ _ _ _ _ us ws hl hw => match us, ws, hl, hw with | [_], [], _, _ => rfl) <|
    .cons (dfOk_mk (st := s_check_refutation) l6 c6 sc_check_refutation ck_check_refutation fun _ _ _ _ _ _ us ws hl hw => match us, ws, hl, hw with | [_, _], [], _, _ => rfl) <|
    .cons (dfOk_mk (st := s_distinct) l7 c7 sc_distinct ck_distinct fun _ _ _ _ _ _ us ws hl hw => match us, ws, hl, hw with | [_], [], _, _ => rfl) <|
    .cons (dfOk_mk (st := s_Solver_init) l8 c8 sc_Solver_init ck_Solver_init fun _ _ _ _ _ _ us ws hl hw => match us, ws, hl, hw with | [_, _, _], [], _, _ => rfl) <|
    .cons (dfOk_mk (st := s_Solver_note) l9 c9 sc_Solver_note ck_Solver_note fun _ _ _ _ _ _ us ws hl hw => match us, ws, hl, hw with | [_, _], [], _, _ => rfl) <|
    .cons (dfOk_mk (st := s_Solver_add) l10 c10 sc_Solver_add ck_Solver_add fun _ _ _ _ _ _ us ws hl hw => match us, ws, hl, hw with | [_, _, _], [], _, _ => rfl) <|
    .cons (dfOk_mk (st := s_Solver_open_terms) l11 c11 sc_Solver_open_terms ck_Solver_open_terms fun _ _ _ _ _ _ us ws hl hw => match us, ws, hl, hw with | [_, _], [], _, _ => rfl) <|
    .cons (dfOk_mk (st := s_Solver_look) l12 c12 sc_Solver_look ck_Solver_look fun _ _ _ _ _ _ us ws hl hw => match us, ws, hl, hw with | [_, _], [], _, _ => rfl) <|
    .cons (dfOk_mk (st := s_Solver_begin) l13 c13 sc_Solver_begin ck_Solver_begin fun _ _ _ _ _ _ us ws hl hw => match us, ws, hl, hw with | [_], [], _, _ => rfl) <|
    .cons (dfOk_mk (st := s_Solver_propagate) l14 c14 sc_Solver_propagate ck_Solver_propagate fun _ _ _ _ _ _ us ws hl hw => match us, ws, hl, hw with | [_], [], _, _ => rfl) <|
    .cons (dfOk_mk (st := s_Solver_marked_terms) l15 c15 sc_Solver_marked_terms ck_Solver_marked_terms fun _ _ _ _ _ _ us ws hl hw => match us, ws, hl, hw with | [_, _], [], _, _ => rfl) <|
    .cons (dfOk_mk (st := s_Solver_learn) l16 c16 sc_Solver_learn ck_Solver_learn fun _ _ _ _ _ _ us ws hl hw => match us, ws, hl, hw with | [_, _], [], _, _ => rfl) <|
    .cons (dfOk_mk (st := s_Solver_cut) l17 c17 sc_Solver_cut ck_Solver_cut fun _ _ _ _ _ _ us ws hl hw => match us, ws, hl, hw with | [_, _], [], _, _ => rfl) <|
    .cons (dfOk_mk (st := s_Solver_decide) l18 c18 sc_Solver_decide ck_Solver_decide fun _ _ _ _ _ _ us ws hl hw => match us, ws, hl, hw with | [_], [], _, _ => rfl) <|
    .cons (dfOk_mk (st := s_Solver_assignment) l19 c19 sc_Solver_assignment ck_Solver_assignment fun _ _ _ _ _ _ us ws hl hw => match us, ws, hl, hw with | [_], [], _, _ => rfl) <|
    .cons (dfOk_mk (st := s_solve) l20 c20 sc_solve ck_solve fun _ _ _ _ _ _ us ws hl hw => match us, ws, hl, hw with | [_, _, _], [], _, _ => rfl) <|
    .cons (dfOk_mk (st := s_law_state) l21 c21 sc_law_state ck_law_state fun _ _ _ _ _ _ us ws hl hw => match us, ws, hl, hw with | [_], [], _, _ => rfl) <|
    .cons (dfOk_mk (st := s_law_take) l22 c22 sc_law_take ck_law_take fun _ _ _ _ _ _ us ws hl hw => match us, ws, hl, hw with | [_, _], [], _, _ => rfl) <|
    .cons (dfOk_mk (st := s_law_clause) l23 c23 sc_law_clause ck_law_clause fun _ _ _ _ _ _ us ws hl hw => match us, ws, hl, hw with | [_, _, _], [], _, _ => rfl) <|
    .cons (dfOk_mk (st := s_law_true) l24 c24 sc_law_true ck_law_true fun _ _ _ _ _ _ us ws hl hw => match us, ws, hl, hw with | [_, _], [], _, _ => rfl) <|
    .cons (dfOk_mk (st := s_law_all) l25 c25 sc_law_all ck_law_all fun _ _ _ _ _ _ us ws hl hw => match us, ws, hl, hw with | [_, _], [], _, _ => rfl) <|
    .cons (dfOk_mk (st := s_law_models) l26 c26 sc_law_models ck_law_models fun _ _ _ _ _ _ us ws hl hw => match us, ws, hl, hw with | [_, _], [], _, _ => rfl) <|
    .cons (dfOk_mk (st := s_law_ints) l27 c27 sc_law_ints ck_law_ints fun _ _ _ _ _ _ us ws hl hw => match us, ws, hl, hw with | [_], [], _, _ => rfl) <|
    .cons (dfOk_mk (st := s_law_step) l28 c28 sc_law_step ck_law_step fun _ _ _ _ _ _ us ws hl hw => match us, ws, hl, hw with | [_, _], [], _, _ => rfl) <|
    .cons (dfOk_mk (st := s_law_right) l29 c29 sc_law_right ck_law_right fun _ _ _ _ _ _ us ws hl hw => match us, ws, hl, hw with | [_, _], [], _, _ => rfl) <|
    .cons (dfOk_mk (st := s_law_strange) l30 c30 sc_law_strange ck_law_strange fun _ _ _ _ _ _ us ws hl hw => match us, ws, hl, hw with | [_], [], _, _ => rfl) <|
    .cons (dfOk_mk (st := s_law_bent) l31 c31 sc_law_bent ck_law_bent fun _ _ _ _ _ _ us ws hl hw => match us, ws, hl, hw with | [_, _], [], _, _ => rfl) <|
    .cons (dfOk_mk (st := s_law) l32 c32 sc_law ck_law fun _ _ _ _ _ _ us ws hl hw => match us, ws, hl, hw with | [_], [], _, _ => rfl) <|
    .nil
  obtain ⟨fd, h1, h2⟩ := law_end (d0 := ⟨[], [], .nil, []⟩) (x := "_law_script") i_law LEVEL B A (fun _ => rfl) rfl (by decide +kernel) (by decide +kernel) rfl
  exact ⟨fd, _, fun s u => h1 s u, h2, fun H a ns hl hS => law_ok _ H a ns hl hS⟩
end LK
open PySem PySem.W PyProof.Rows
set_option maxRecDepth 100000 in
set_option maxHeartbeats 0 in
theorem PySem.Challenge.cw_clockwright_k53_refutations_holds : PySem.Challenge.rw_clockwright_k53_refutations.Holds := by
  w_on; o_law; k_head; (case hw => w_witness2)
  k_fill
  refine DI.walkG (l := PySem.Challenge.rw_clockwright_k53_refutations) (x := "_law_script") LK.LEVEL rfl rfl rfl ⟨⟨rfl, by decide, by decide⟩, rfl⟩ (fun w h Y => PySem.W.kIn_of Y) ?F
  case F =>
    intro w mg fa h KX G hmg
    refine' LK.fin KX G hmg ?a0 ?l0 ?c0 ?k0 ?a1 ?l1 ?c1 ?k1 ?a2 ?l2 ?c2 ?k2 ?a3 ?l3 ?c3 ?k3 ?a4 ?l4 ?c4 ?k4 ?a5 ?l5 ?c5 ?k5 ?a6 ?l6 ?c6 ?k6 ?a7 ?l7 ?c7 ?k7 ?a8 ?i8 ?l8 ?c8 ?k8 ?a9 ?i9 ?l9 ?c9 ?k9 ?a10 ?i10 ?l10 ?c10 ?k10 ?a11 ?i11 ?l11 ?c11 ?k11 ?a12 ?i12 ?l12 ?c12 ?k12 ?a13 ?i13 ?l13 ?c13 ?k13 ?a14 ?i14 ?l14 ?c14 ?k14 ?a15 ?i15 ?l15 ?c15 ?k15 ?a16 ?i16 ?l16 ?c16 ?k16 ?a17 ?i17 ?l17 ?c17 ?k17 ?a18 ?i18 ?l18 ?c18 ?k18 ?a19 ?i19 ?l19 ?c19 ?k19 ?a20 ?l20 ?c20 ?k20 ?a21 ?l21 ?c21 ?k21 ?a22 ?l22 ?c22 ?k22 ?a23 ?l23 ?c23 ?k23 ?a24 ?l24 ?c24 ?k24 ?a25 ?l25 ?c25 ?k25 ?a26 ?l26 ?c26 ?k26 ?a27 ?l27 ?c27 ?k27 ?a28 ?l28 ?c28 ?k28 ?a29 ?l29 ?c29 ?k29 ?a30 ?l30 ?c30 ?k30 ?a31 ?l31 ?c31 ?k31 ?a32 ?l32 ?c32 ?k32 ?aC0 ?pg0 ?hd0 ?po0 ?sa0 ?mk0 ?kc0 ?n0 ?n1 ?n2 ?n3 ?n4 ?n5 ?n6 ?z0 ?z1 ?z2 ?z3 ?z4 ?z5 ?z6 ?z7 ?z8 ?z9 ?z10 ?z11 ?z12 ?z13 ?z14 ?z15 ?z16 ?z17 ?z18 ?z19 ?z20 ?z21
    (case aC0 => k_is); (case a0 => k_is); (case l0 => k_is); (case c0 => k_is); (case k0 => k_is); (case a1 => k_is)
    (case l1 => k_is); (case c1 => k_is); (case k1 => k_is); (case a2 => k_is); (case l2 => k_is); (case c2 => k_is)
    (case k2 => k_is); (case a3 => k_is); (case l3 => k_is); (case c3 => k_is); (case k3 => k_is); (case a4 => k_is)
    (case l4 => k_is); (case c4 => k_is); (case k4 => k_is); (case a5 => k_is); (case l5 => k_is); (case c5 => k_is)
    (case k5 => k_is); (case a6 => k_is); (case l6 => k_is); (case c6 => k_is); (case k6 => k_is); (case a7 => k_is)
    (case l7 => k_is); (case c7 => k_is); (case k7 => k_is); (case a8 => k_is); (case i8 => k_is); (case l8 => k_is)
    (case c8 => k_is); (case k8 => k_is); (case a9 => k_is); (case i9 => k_is); (case l9 => k_is); (case c9 => k_is)
    (case k9 => k_is); (case a10 => k_is); (case i10 => k_is); (case l10 => k_is); (case c10 => k_is); (case k10 => k_is)
    (case a11 => k_is); (case i11 => k_is); (case l11 => k_is); (case c11 => k_is); (case k11 => k_is); (case a12 => k_is)
    (case i12 => k_is); (case l12 => k_is); (case c12 => k_is); (case k12 => k_is); (case a13 => k_is); (case i13 => k_is)
    (case l13 => k_is); (case c13 => k_is); (case k13 => k_is); (case a14 => k_is); (case i14 => k_is); (case l14 => k_is)
    (case c14 => k_is); (case k14 => k_is); (case a15 => k_is); (case i15 => k_is); (case l15 => k_is); (case c15 => k_is)
    (case k15 => k_is); (case a16 => k_is); (case i16 => k_is); (case l16 => k_is); (case c16 => k_is); (case k16 => k_is)
    (case a17 => k_is); (case i17 => k_is); (case l17 => k_is); (case c17 => k_is); (case k17 => k_is); (case a18 => k_is)
    (case i18 => k_is); (case l18 => k_is); (case c18 => k_is); (case k18 => k_is); (case a19 => k_is); (case i19 => k_is)
    (case l19 => k_is); (case c19 => k_is); (case k19 => k_is); (case a20 => k_is); (case l20 => k_is); (case c20 => k_is)
    (case k20 => k_is); (case a21 => k_is); (case l21 => k_is); (case c21 => k_is); (case k21 => k_is); (case a22 => k_is)
    (case l22 => k_is); (case c22 => k_is); (case k22 => k_is); (case a23 => k_is); (case l23 => k_is); (case c23 => k_is)
    (case k23 => k_is); (case a24 => k_is); (case l24 => k_is); (case c24 => k_is); (case k24 => k_is); (case a25 => k_is)
    (case l25 => k_is); (case c25 => k_is); (case k25 => k_is); (case a26 => k_is); (case l26 => k_is); (case c26 => k_is)
    (case k26 => k_is); (case a27 => k_is); (case l27 => k_is); (case c27 => k_is); (case k27 => k_is); (case a28 => k_is)
    (case l28 => k_is); (case c28 => k_is); (case k28 => k_is); (case a29 => k_is); (case l29 => k_is); (case c29 => k_is)
    (case k29 => k_is); (case a30 => k_is); (case l30 => k_is); (case c30 => k_is); (case k30 => k_is); (case a31 => k_is)
    (case l31 => k_is); (case c31 => k_is); (case k31 => k_is); (case a32 => k_is); (case l32 => k_is); (case c32 => k_is)
    (case k32 => k_is); (case pg0 => k_is); (case hd0 => k_is); (case po0 => k_is); (case sa0 => k_is); (case mk0 => k_is)
    (case kc0 => k_is); (case n0 => k_is); (case n1 => k_is); (case n2 => k_is); (case n3 => k_is); (case n4 => k_is)
    (case n5 => k_is); (case n6 => k_is); (case z0 => k_is); (case z1 => k_is); (case z2 => k_is); (case z3 => k_is)
    (case z4 => k_is); (case z5 => k_is); (case z6 => k_is); (case z7 => k_is); (case z8 => k_is); (case z9 => k_is)
    (case z10 => k_is); (case z11 => k_is); (case z12 => k_is); (case z13 => k_is); (case z14 => k_is); (case z15 => k_is)
    (case z16 => k_is); (case z17 => k_is); (case z18 => k_is); (case z19 => k_is); (case z20 => k_is); (case z21 => k_is)
