/-
  Printed by ob.py: all ways of OverBest.
-/
import Derived.Test.YtakhchbeofknaaaGW0
import Derived.Test.YtakhchbeofknaaaGW1
import Derived.Test.YtakhchbeofknaaaGW2
import Derived.Test.YtakhchbeofknaaaGW3
import Derived.Test.YtakhchbeofknaaaGW4
import Derived.Test.YtakhchbeofknaaaGW5
import Derived.Test.YtakhchbeofknaaaGW6
import Derived.Test.YtakhchbeofknaaaGW7
import Derived.Test.YtakhchbeofknaaaGW8
import Derived.Test.YtakhchbeofknaaaGW9
import Derived.Test.YtakhchbeofknaaaGW10
import Derived.Test.YtakhchbeofknaaaGW11
import Derived.Test.YtakhchbeofknaaaGW12
import Derived.Test.YtakhchbeofknaaaGW13
import Derived.Test.YtakhchbeofknaaaGW14
import Derived.Test.YtakhchbeofknaaaGW15
import Derived.Test.YtakhchbeofknaaaGW16
import Derived.Test.YtakhchbeofknaaaGW17
import Derived.Test.YtakhchbeofknaaaGW18
import Derived.Test.YtakhchbeofknaaaGW19
import Derived.Test.YtakhchbeofknaaaGW20
import Derived.Test.YtakhchbeofknaaaGW21
import Derived.Test.YtakhchbeofknaaaGW22
import Derived.Test.YtakhchbeofknaaaGW23
import Derived.Test.YtakhchbeofknaaaGW24
import Derived.Test.YtakhchbeofknaaaGW25
import Derived.Test.YtakhchbeofknaaaGW26
import Derived.Test.YtakhchbeofknaaaGW27
import Derived.Test.YtakhchbeofknaaaGW28
import Derived.Test.YtakhchbeofknaaaGW29
import Derived.Test.YtakhchbeofknaaaGW30
import Derived.Test.YtakhchbeofknaaaGW31
import Derived.Test.YtakhchbeofknaaaGW32
import Derived.Test.YtakhchbeofknaaaGW33
import Derived.Test.YtakhchbeofknaaaGW34
import Derived.Test.YtakhchbeofknaaaGW35
import Derived.Test.YtakhchbeofknaaaGW36
import Derived.Test.YtakhchbeofknaaaGW37
import Derived.Test.YtakhchbeofknaaaGW38
import Derived.Test.YtakhchbeofknaaaGW39
set_option linter.unusedVariables false
set_option maxRecDepth 20000
namespace Go.Zev.Ob
open Go Go.Zev Go.Proofs
theorem part0 (a0 a1 a2 : Int) : ∀ (b5 b6 b7 b8 : Bool), Way a0 a1 a2 [false, false, false, false, false, b5, b6, b7, b8]
  | false, false, false, false => w0 a0 a1 a2
  | true, false, false, false => w32 a0 a1 a2
  | false, true, false, false => w64 a0 a1 a2
  | true, true, false, false => w96 a0 a1 a2
  | false, false, true, false => w128 a0 a1 a2
  | true, false, true, false => w160 a0 a1 a2
  | false, true, true, false => w192 a0 a1 a2
  | true, true, true, false => w224 a0 a1 a2
  | false, false, false, true => w256 a0 a1 a2
  | true, false, false, true => w288 a0 a1 a2
  | false, true, false, true => w320 a0 a1 a2
  | true, true, false, true => w352 a0 a1 a2
  | false, false, true, true => w384 a0 a1 a2
  | true, false, true, true => w416 a0 a1 a2
  | false, true, true, true => w448 a0 a1 a2
  | true, true, true, true => w480 a0 a1 a2
theorem part1 (a0 a1 a2 : Int) : ∀ (b5 b6 b7 b8 : Bool), Way a0 a1 a2 [true, false, false, false, false, b5, b6, b7, b8]
  | false, false, false, false => w1 a0 a1 a2
  | true, false, false, false => w33 a0 a1 a2
  | false, true, false, false => w65 a0 a1 a2
  | true, true, false, false => w97 a0 a1 a2
  | false, false, true, false => w129 a0 a1 a2
  | true, false, true, false => w161 a0 a1 a2
  | false, true, true, false => w193 a0 a1 a2
  | true, true, true, false => w225 a0 a1 a2
  | false, false, false, true => w257 a0 a1 a2
  | true, false, false, true => w289 a0 a1 a2
  | false, true, false, true => w321 a0 a1 a2
  | true, true, false, true => w353 a0 a1 a2
  | false, false, true, true => w385 a0 a1 a2
  | true, false, true, true => w417 a0 a1 a2
  | false, true, true, true => w449 a0 a1 a2
  | true, true, true, true => w481 a0 a1 a2
theorem part2 (a0 a1 a2 : Int) : ∀ (b5 b6 b7 b8 : Bool), Way a0 a1 a2 [false, true, false, false, false, b5, b6, b7, b8]
  | false, false, false, false => w2 a0 a1 a2
  | true, false, false, false => w34 a0 a1 a2
  | false, true, false, false => w66 a0 a1 a2
  | true, true, false, false => w98 a0 a1 a2
  | false, false, true, false => w130 a0 a1 a2
  | true, false, true, false => w162 a0 a1 a2
  | false, true, true, false => w194 a0 a1 a2
  | true, true, true, false => w226 a0 a1 a2
  | false, false, false, true => w258 a0 a1 a2
  | true, false, false, true => w290 a0 a1 a2
  | false, true, false, true => w322 a0 a1 a2
  | true, true, false, true => w354 a0 a1 a2
  | false, false, true, true => w386 a0 a1 a2
  | true, false, true, true => w418 a0 a1 a2
  | false, true, true, true => w450 a0 a1 a2
  | true, true, true, true => w482 a0 a1 a2
theorem part3 (a0 a1 a2 : Int) : ∀ (b5 b6 b7 b8 : Bool), Way a0 a1 a2 [true, true, false, false, false, b5, b6, b7, b8]
  | false, false, false, false => w3 a0 a1 a2
  | true, false, false, false => w35 a0 a1 a2
  | false, true, false, false => w67 a0 a1 a2
  | true, true, false, false => w99 a0 a1 a2
  | false, false, true, false => w131 a0 a1 a2
  | true, false, true, false => w163 a0 a1 a2
  | false, true, true, false => w195 a0 a1 a2
  | true, true, true, false => w227 a0 a1 a2
  | false, false, false, true => w259 a0 a1 a2
  | true, false, false, true => w291 a0 a1 a2
  | false, true, false, true => w323 a0 a1 a2
  | true, true, false, true => w355 a0 a1 a2
  | false, false, true, true => w387 a0 a1 a2
  | true, false, true, true => w419 a0 a1 a2
  | false, true, true, true => w451 a0 a1 a2
  | true, true, true, true => w483 a0 a1 a2
theorem part4 (a0 a1 a2 : Int) : ∀ (b5 b6 b7 b8 : Bool), Way a0 a1 a2 [false, false, true, false, false, b5, b6, b7, b8]
  | false, false, false, false => w4 a0 a1 a2
  | true, false, false, false => w36 a0 a1 a2
  | false, true, false, false => w68 a0 a1 a2
  | true, true, false, false => w100 a0 a1 a2
  | false, false, true, false => w132 a0 a1 a2
  | true, false, true, false => w164 a0 a1 a2
  | false, true, true, false => w196 a0 a1 a2
  | true, true, true, false => w228 a0 a1 a2
  | false, false, false, true => w260 a0 a1 a2
  | true, false, false, true => w292 a0 a1 a2
  | false, true, false, true => w324 a0 a1 a2
  | true, true, false, true => w356 a0 a1 a2
  | false, false, true, true => w388 a0 a1 a2
  | true, false, true, true => w420 a0 a1 a2
  | false, true, true, true => w452 a0 a1 a2
  | true, true, true, true => w484 a0 a1 a2
theorem part5 (a0 a1 a2 : Int) : ∀ (b5 b6 b7 b8 : Bool), Way a0 a1 a2 [true, false, true, false, false, b5, b6, b7, b8]
  | false, false, false, false => w5 a0 a1 a2
  | true, false, false, false => w37 a0 a1 a2
  | false, true, false, false => w69 a0 a1 a2
  | true, true, false, false => w101 a0 a1 a2
  | false, false, true, false => w133 a0 a1 a2
  | true, false, true, false => w165 a0 a1 a2
  | false, true, true, false => w197 a0 a1 a2
  | true, true, true, false => w229 a0 a1 a2
  | false, false, false, true => w261 a0 a1 a2
  | true, false, false, true => w293 a0 a1 a2
  | false, true, false, true => w325 a0 a1 a2
  | true, true, false, true => w357 a0 a1 a2
  | false, false, true, true => w389 a0 a1 a2
  | true, false, true, true => w421 a0 a1 a2
  | false, true, true, true => w453 a0 a1 a2
  | true, true, true, true => w485 a0 a1 a2
theorem part6 (a0 a1 a2 : Int) : ∀ (b5 b6 b7 b8 : Bool), Way a0 a1 a2 [false, true, true, false, false, b5, b6, b7, b8]
  | false, false, false, false => w6 a0 a1 a2
  | true, false, false, false => w38 a0 a1 a2
  | false, true, false, false => w70 a0 a1 a2
  | true, true, false, false => w102 a0 a1 a2
  | false, false, true, false => w134 a0 a1 a2
  | true, false, true, false => w166 a0 a1 a2
  | false, true, true, false => w198 a0 a1 a2
  | true, true, true, false => w230 a0 a1 a2
  | false, false, false, true => w262 a0 a1 a2
  | true, false, false, true => w294 a0 a1 a2
  | false, true, false, true => w326 a0 a1 a2
  | true, true, false, true => w358 a0 a1 a2
  | false, false, true, true => w390 a0 a1 a2
  | true, false, true, true => w422 a0 a1 a2
  | false, true, true, true => w454 a0 a1 a2
  | true, true, true, true => w486 a0 a1 a2
theorem part7 (a0 a1 a2 : Int) : ∀ (b5 b6 b7 b8 : Bool), Way a0 a1 a2 [true, true, true, false, false, b5, b6, b7, b8]
  | false, false, false, false => w7 a0 a1 a2
  | true, false, false, false => w39 a0 a1 a2
  | false, true, false, false => w71 a0 a1 a2
  | true, true, false, false => w103 a0 a1 a2
  | false, false, true, false => w135 a0 a1 a2
  | true, false, true, false => w167 a0 a1 a2
  | false, true, true, false => w199 a0 a1 a2
  | true, true, true, false => w231 a0 a1 a2
  | false, false, false, true => w263 a0 a1 a2
  | true, false, false, true => w295 a0 a1 a2
  | false, true, false, true => w327 a0 a1 a2
  | true, true, false, true => w359 a0 a1 a2
  | false, false, true, true => w391 a0 a1 a2
  | true, false, true, true => w423 a0 a1 a2
  | false, true, true, true => w455 a0 a1 a2
  | true, true, true, true => w487 a0 a1 a2
theorem part8 (a0 a1 a2 : Int) : ∀ (b5 b6 b7 b8 : Bool), Way a0 a1 a2 [false, false, false, true, false, b5, b6, b7, b8]
  | false, false, false, false => w8 a0 a1 a2
  | true, false, false, false => w40 a0 a1 a2
  | false, true, false, false => w72 a0 a1 a2
  | true, true, false, false => w104 a0 a1 a2
  | false, false, true, false => w136 a0 a1 a2
  | true, false, true, false => w168 a0 a1 a2
  | false, true, true, false => w200 a0 a1 a2
  | true, true, true, false => w232 a0 a1 a2
  | false, false, false, true => w264 a0 a1 a2
  | true, false, false, true => w296 a0 a1 a2
  | false, true, false, true => w328 a0 a1 a2
  | true, true, false, true => w360 a0 a1 a2
  | false, false, true, true => w392 a0 a1 a2
  | true, false, true, true => w424 a0 a1 a2
  | false, true, true, true => w456 a0 a1 a2
  | true, true, true, true => w488 a0 a1 a2
theorem part9 (a0 a1 a2 : Int) : ∀ (b5 b6 b7 b8 : Bool), Way a0 a1 a2 [true, false, false, true, false, b5, b6, b7, b8]
  | false, false, false, false => w9 a0 a1 a2
  | true, false, false, false => w41 a0 a1 a2
  | false, true, false, false => w73 a0 a1 a2
  | true, true, false, false => w105 a0 a1 a2
  | false, false, true, false => w137 a0 a1 a2
  | true, false, true, false => w169 a0 a1 a2
  | false, true, true, false => w201 a0 a1 a2
  | true, true, true, false => w233 a0 a1 a2
  | false, false, false, true => w265 a0 a1 a2
  | true, false, false, true => w297 a0 a1 a2
  | false, true, false, true => w329 a0 a1 a2
  | true, true, false, true => w361 a0 a1 a2
  | false, false, true, true => w393 a0 a1 a2
  | true, false, true, true => w425 a0 a1 a2
  | false, true, true, true => w457 a0 a1 a2
  | true, true, true, true => w489 a0 a1 a2
theorem part10 (a0 a1 a2 : Int) : ∀ (b5 b6 b7 b8 : Bool), Way a0 a1 a2 [false, true, false, true, false, b5, b6, b7, b8]
  | false, false, false, false => w10 a0 a1 a2
  | true, false, false, false => w42 a0 a1 a2
  | false, true, false, false => w74 a0 a1 a2
  | true, true, false, false => w106 a0 a1 a2
  | false, false, true, false => w138 a0 a1 a2
  | true, false, true, false => w170 a0 a1 a2
  | false, true, true, false => w202 a0 a1 a2
  | true, true, true, false => w234 a0 a1 a2
  | false, false, false, true => w266 a0 a1 a2
  | true, false, false, true => w298 a0 a1 a2
  | false, true, false, true => w330 a0 a1 a2
  | true, true, false, true => w362 a0 a1 a2
  | false, false, true, true => w394 a0 a1 a2
  | true, false, true, true => w426 a0 a1 a2
  | false, true, true, true => w458 a0 a1 a2
  | true, true, true, true => w490 a0 a1 a2
theorem part11 (a0 a1 a2 : Int) : ∀ (b5 b6 b7 b8 : Bool), Way a0 a1 a2 [true, true, false, true, false, b5, b6, b7, b8]
  | false, false, false, false => w11 a0 a1 a2
  | true, false, false, false => w43 a0 a1 a2
  | false, true, false, false => w75 a0 a1 a2
  | true, true, false, false => w107 a0 a1 a2
  | false, false, true, false => w139 a0 a1 a2
  | true, false, true, false => w171 a0 a1 a2
  | false, true, true, false => w203 a0 a1 a2
  | true, true, true, false => w235 a0 a1 a2
  | false, false, false, true => w267 a0 a1 a2
  | true, false, false, true => w299 a0 a1 a2
  | false, true, false, true => w331 a0 a1 a2
  | true, true, false, true => w363 a0 a1 a2
  | false, false, true, true => w395 a0 a1 a2
  | true, false, true, true => w427 a0 a1 a2
  | false, true, true, true => w459 a0 a1 a2
  | true, true, true, true => w491 a0 a1 a2
theorem part12 (a0 a1 a2 : Int) : ∀ (b5 b6 b7 b8 : Bool), Way a0 a1 a2 [false, false, true, true, false, b5, b6, b7, b8]
  | false, false, false, false => w12 a0 a1 a2
  | true, false, false, false => w44 a0 a1 a2
  | false, true, false, false => w76 a0 a1 a2
  | true, true, false, false => w108 a0 a1 a2
  | false, false, true, false => w140 a0 a1 a2
  | true, false, true, false => w172 a0 a1 a2
  | false, true, true, false => w204 a0 a1 a2
  | true, true, true, false => w236 a0 a1 a2
  | false, false, false, true => w268 a0 a1 a2
  | true, false, false, true => w300 a0 a1 a2
  | false, true, false, true => w332 a0 a1 a2
  | true, true, false, true => w364 a0 a1 a2
  | false, false, true, true => w396 a0 a1 a2
  | true, false, true, true => w428 a0 a1 a2
  | false, true, true, true => w460 a0 a1 a2
  | true, true, true, true => w492 a0 a1 a2
theorem part13 (a0 a1 a2 : Int) : ∀ (b5 b6 b7 b8 : Bool), Way a0 a1 a2 [true, false, true, true, false, b5, b6, b7, b8]
  | false, false, false, false => w13 a0 a1 a2
  | true, false, false, false => w45 a0 a1 a2
  | false, true, false, false => w77 a0 a1 a2
  | true, true, false, false => w109 a0 a1 a2
  | false, false, true, false => w141 a0 a1 a2
  | true, false, true, false => w173 a0 a1 a2
  | false, true, true, false => w205 a0 a1 a2
  | true, true, true, false => w237 a0 a1 a2
  | false, false, false, true => w269 a0 a1 a2
  | true, false, false, true => w301 a0 a1 a2
  | false, true, false, true => w333 a0 a1 a2
  | true, true, false, true => w365 a0 a1 a2
  | false, false, true, true => w397 a0 a1 a2
  | true, false, true, true => w429 a0 a1 a2
  | false, true, true, true => w461 a0 a1 a2
  | true, true, true, true => w493 a0 a1 a2
theorem part14 (a0 a1 a2 : Int) : ∀ (b5 b6 b7 b8 : Bool), Way a0 a1 a2 [false, true, true, true, false, b5, b6, b7, b8]
  | false, false, false, false => w14 a0 a1 a2
  | true, false, false, false => w46 a0 a1 a2
  | false, true, false, false => w78 a0 a1 a2
  | true, true, false, false => w110 a0 a1 a2
  | false, false, true, false => w142 a0 a1 a2
  | true, false, true, false => w174 a0 a1 a2
  | false, true, true, false => w206 a0 a1 a2
  | true, true, true, false => w238 a0 a1 a2
  | false, false, false, true => w270 a0 a1 a2
  | true, false, false, true => w302 a0 a1 a2
  | false, true, false, true => w334 a0 a1 a2
  | true, true, false, true => w366 a0 a1 a2
  | false, false, true, true => w398 a0 a1 a2
  | true, false, true, true => w430 a0 a1 a2
  | false, true, true, true => w462 a0 a1 a2
  | true, true, true, true => w494 a0 a1 a2
theorem part15 (a0 a1 a2 : Int) : ∀ (b5 b6 b7 b8 : Bool), Way a0 a1 a2 [true, true, true, true, false, b5, b6, b7, b8]
  | false, false, false, false => w15 a0 a1 a2
  | true, false, false, false => w47 a0 a1 a2
  | false, true, false, false => w79 a0 a1 a2
  | true, true, false, false => w111 a0 a1 a2
  | false, false, true, false => w143 a0 a1 a2
  | true, false, true, false => w175 a0 a1 a2
  | false, true, true, false => w207 a0 a1 a2
  | true, true, true, false => w239 a0 a1 a2
  | false, false, false, true => w271 a0 a1 a2
  | true, false, false, true => w303 a0 a1 a2
  | false, true, false, true => w335 a0 a1 a2
  | true, true, false, true => w367 a0 a1 a2
  | false, false, true, true => w399 a0 a1 a2
  | true, false, true, true => w431 a0 a1 a2
  | false, true, true, true => w463 a0 a1 a2
  | true, true, true, true => w495 a0 a1 a2
theorem part16 (a0 a1 a2 : Int) : ∀ (b5 b6 b7 b8 : Bool), Way a0 a1 a2 [false, false, false, false, true, b5, b6, b7, b8]
  | false, false, false, false => w16 a0 a1 a2
  | true, false, false, false => w48 a0 a1 a2
  | false, true, false, false => w80 a0 a1 a2
  | true, true, false, false => w112 a0 a1 a2
  | false, false, true, false => w144 a0 a1 a2
  | true, false, true, false => w176 a0 a1 a2
  | false, true, true, false => w208 a0 a1 a2
  | true, true, true, false => w240 a0 a1 a2
  | false, false, false, true => w272 a0 a1 a2
  | true, false, false, true => w304 a0 a1 a2
  | false, true, false, true => w336 a0 a1 a2
  | true, true, false, true => w368 a0 a1 a2
  | false, false, true, true => w400 a0 a1 a2
  | true, false, true, true => w432 a0 a1 a2
  | false, true, true, true => w464 a0 a1 a2
  | true, true, true, true => w496 a0 a1 a2
theorem part17 (a0 a1 a2 : Int) : ∀ (b5 b6 b7 b8 : Bool), Way a0 a1 a2 [true, false, false, false, true, b5, b6, b7, b8]
  | false, false, false, false => w17 a0 a1 a2
  | true, false, false, false => w49 a0 a1 a2
  | false, true, false, false => w81 a0 a1 a2
  | true, true, false, false => w113 a0 a1 a2
  | false, false, true, false => w145 a0 a1 a2
  | true, false, true, false => w177 a0 a1 a2
  | false, true, true, false => w209 a0 a1 a2
  | true, true, true, false => w241 a0 a1 a2
  | false, false, false, true => w273 a0 a1 a2
  | true, false, false, true => w305 a0 a1 a2
  | false, true, false, true => w337 a0 a1 a2
  | true, true, false, true => w369 a0 a1 a2
  | false, false, true, true => w401 a0 a1 a2
  | true, false, true, true => w433 a0 a1 a2
  | false, true, true, true => w465 a0 a1 a2
  | true, true, true, true => w497 a0 a1 a2
theorem part18 (a0 a1 a2 : Int) : ∀ (b5 b6 b7 b8 : Bool), Way a0 a1 a2 [false, true, false, false, true, b5, b6, b7, b8]
  | false, false, false, false => w18 a0 a1 a2
  | true, false, false, false => w50 a0 a1 a2
  | false, true, false, false => w82 a0 a1 a2
  | true, true, false, false => w114 a0 a1 a2
  | false, false, true, false => w146 a0 a1 a2
  | true, false, true, false => w178 a0 a1 a2
  | false, true, true, false => w210 a0 a1 a2
  | true, true, true, false => w242 a0 a1 a2
  | false, false, false, true => w274 a0 a1 a2
  | true, false, false, true => w306 a0 a1 a2
  | false, true, false, true => w338 a0 a1 a2
  | true, true, false, true => w370 a0 a1 a2
  | false, false, true, true => w402 a0 a1 a2
  | true, false, true, true => w434 a0 a1 a2
  | false, true, true, true => w466 a0 a1 a2
  | true, true, true, true => w498 a0 a1 a2
theorem part19 (a0 a1 a2 : Int) : ∀ (b5 b6 b7 b8 : Bool), Way a0 a1 a2 [true, true, false, false, true, b5, b6, b7, b8]
  | false, false, false, false => w19 a0 a1 a2
  | true, false, false, false => w51 a0 a1 a2
  | false, true, false, false => w83 a0 a1 a2
  | true, true, false, false => w115 a0 a1 a2
  | false, false, true, false => w147 a0 a1 a2
  | true, false, true, false => w179 a0 a1 a2
  | false, true, true, false => w211 a0 a1 a2
  | true, true, true, false => w243 a0 a1 a2
  | false, false, false, true => w275 a0 a1 a2
  | true, false, false, true => w307 a0 a1 a2
  | false, true, false, true => w339 a0 a1 a2
  | true, true, false, true => w371 a0 a1 a2
  | false, false, true, true => w403 a0 a1 a2
  | true, false, true, true => w435 a0 a1 a2
  | false, true, true, true => w467 a0 a1 a2
  | true, true, true, true => w499 a0 a1 a2
theorem part20 (a0 a1 a2 : Int) : ∀ (b5 b6 b7 b8 : Bool), Way a0 a1 a2 [false, false, true, false, true, b5, b6, b7, b8]
  | false, false, false, false => w20 a0 a1 a2
  | true, false, false, false => w52 a0 a1 a2
  | false, true, false, false => w84 a0 a1 a2
  | true, true, false, false => w116 a0 a1 a2
  | false, false, true, false => w148 a0 a1 a2
  | true, false, true, false => w180 a0 a1 a2
  | false, true, true, false => w212 a0 a1 a2
  | true, true, true, false => w244 a0 a1 a2
  | false, false, false, true => w276 a0 a1 a2
  | true, false, false, true => w308 a0 a1 a2
  | false, true, false, true => w340 a0 a1 a2
  | true, true, false, true => w372 a0 a1 a2
  | false, false, true, true => w404 a0 a1 a2
  | true, false, true, true => w436 a0 a1 a2
  | false, true, true, true => w468 a0 a1 a2
  | true, true, true, true => w500 a0 a1 a2
theorem part21 (a0 a1 a2 : Int) : ∀ (b5 b6 b7 b8 : Bool), Way a0 a1 a2 [true, false, true, false, true, b5, b6, b7, b8]
  | false, false, false, false => w21 a0 a1 a2
  | true, false, false, false => w53 a0 a1 a2
  | false, true, false, false => w85 a0 a1 a2
  | true, true, false, false => w117 a0 a1 a2
  | false, false, true, false => w149 a0 a1 a2
  | true, false, true, false => w181 a0 a1 a2
  | false, true, true, false => w213 a0 a1 a2
  | true, true, true, false => w245 a0 a1 a2
  | false, false, false, true => w277 a0 a1 a2
  | true, false, false, true => w309 a0 a1 a2
  | false, true, false, true => w341 a0 a1 a2
  | true, true, false, true => w373 a0 a1 a2
  | false, false, true, true => w405 a0 a1 a2
  | true, false, true, true => w437 a0 a1 a2
  | false, true, true, true => w469 a0 a1 a2
  | true, true, true, true => w501 a0 a1 a2
theorem part22 (a0 a1 a2 : Int) : ∀ (b5 b6 b7 b8 : Bool), Way a0 a1 a2 [false, true, true, false, true, b5, b6, b7, b8]
  | false, false, false, false => w22 a0 a1 a2
  | true, false, false, false => w54 a0 a1 a2
  | false, true, false, false => w86 a0 a1 a2
  | true, true, false, false => w118 a0 a1 a2
  | false, false, true, false => w150 a0 a1 a2
  | true, false, true, false => w182 a0 a1 a2
  | false, true, true, false => w214 a0 a1 a2
  | true, true, true, false => w246 a0 a1 a2
  | false, false, false, true => w278 a0 a1 a2
  | true, false, false, true => w310 a0 a1 a2
  | false, true, false, true => w342 a0 a1 a2
  | true, true, false, true => w374 a0 a1 a2
  | false, false, true, true => w406 a0 a1 a2
  | true, false, true, true => w438 a0 a1 a2
  | false, true, true, true => w470 a0 a1 a2
  | true, true, true, true => w502 a0 a1 a2
theorem part23 (a0 a1 a2 : Int) : ∀ (b5 b6 b7 b8 : Bool), Way a0 a1 a2 [true, true, true, false, true, b5, b6, b7, b8]
  | false, false, false, false => w23 a0 a1 a2
  | true, false, false, false => w55 a0 a1 a2
  | false, true, false, false => w87 a0 a1 a2
  | true, true, false, false => w119 a0 a1 a2
  | false, false, true, false => w151 a0 a1 a2
  | true, false, true, false => w183 a0 a1 a2
  | false, true, true, false => w215 a0 a1 a2
  | true, true, true, false => w247 a0 a1 a2
  | false, false, false, true => w279 a0 a1 a2
  | true, false, false, true => w311 a0 a1 a2
  | false, true, false, true => w343 a0 a1 a2
  | true, true, false, true => w375 a0 a1 a2
  | false, false, true, true => w407 a0 a1 a2
  | true, false, true, true => w439 a0 a1 a2
  | false, true, true, true => w471 a0 a1 a2
  | true, true, true, true => w503 a0 a1 a2
theorem part24 (a0 a1 a2 : Int) : ∀ (b5 b6 b7 b8 : Bool), Way a0 a1 a2 [false, false, false, true, true, b5, b6, b7, b8]
  | false, false, false, false => w24 a0 a1 a2
  | true, false, false, false => w56 a0 a1 a2
  | false, true, false, false => w88 a0 a1 a2
  | true, true, false, false => w120 a0 a1 a2
  | false, false, true, false => w152 a0 a1 a2
  | true, false, true, false => w184 a0 a1 a2
  | false, true, true, false => w216 a0 a1 a2
  | true, true, true, false => w248 a0 a1 a2
  | false, false, false, true => w280 a0 a1 a2
  | true, false, false, true => w312 a0 a1 a2
  | false, true, false, true => w344 a0 a1 a2
  | true, true, false, true => w376 a0 a1 a2
  | false, false, true, true => w408 a0 a1 a2
  | true, false, true, true => w440 a0 a1 a2
  | false, true, true, true => w472 a0 a1 a2
  | true, true, true, true => w504 a0 a1 a2
theorem part25 (a0 a1 a2 : Int) : ∀ (b5 b6 b7 b8 : Bool), Way a0 a1 a2 [true, false, false, true, true, b5, b6, b7, b8]
  | false, false, false, false => w25 a0 a1 a2
  | true, false, false, false => w57 a0 a1 a2
  | false, true, false, false => w89 a0 a1 a2
  | true, true, false, false => w121 a0 a1 a2
  | false, false, true, false => w153 a0 a1 a2
  | true, false, true, false => w185 a0 a1 a2
  | false, true, true, false => w217 a0 a1 a2
  | true, true, true, false => w249 a0 a1 a2
  | false, false, false, true => w281 a0 a1 a2
  | true, false, false, true => w313 a0 a1 a2
  | false, true, false, true => w345 a0 a1 a2
  | true, true, false, true => w377 a0 a1 a2
  | false, false, true, true => w409 a0 a1 a2
  | true, false, true, true => w441 a0 a1 a2
  | false, true, true, true => w473 a0 a1 a2
  | true, true, true, true => w505 a0 a1 a2
theorem part26 (a0 a1 a2 : Int) : ∀ (b5 b6 b7 b8 : Bool), Way a0 a1 a2 [false, true, false, true, true, b5, b6, b7, b8]
  | false, false, false, false => w26 a0 a1 a2
  | true, false, false, false => w58 a0 a1 a2
  | false, true, false, false => w90 a0 a1 a2
  | true, true, false, false => w122 a0 a1 a2
  | false, false, true, false => w154 a0 a1 a2
  | true, false, true, false => w186 a0 a1 a2
  | false, true, true, false => w218 a0 a1 a2
  | true, true, true, false => w250 a0 a1 a2
  | false, false, false, true => w282 a0 a1 a2
  | true, false, false, true => w314 a0 a1 a2
  | false, true, false, true => w346 a0 a1 a2
  | true, true, false, true => w378 a0 a1 a2
  | false, false, true, true => w410 a0 a1 a2
  | true, false, true, true => w442 a0 a1 a2
  | false, true, true, true => w474 a0 a1 a2
  | true, true, true, true => w506 a0 a1 a2
theorem part27 (a0 a1 a2 : Int) : ∀ (b5 b6 b7 b8 : Bool), Way a0 a1 a2 [true, true, false, true, true, b5, b6, b7, b8]
  | false, false, false, false => w27 a0 a1 a2
  | true, false, false, false => w59 a0 a1 a2
  | false, true, false, false => w91 a0 a1 a2
  | true, true, false, false => w123 a0 a1 a2
  | false, false, true, false => w155 a0 a1 a2
  | true, false, true, false => w187 a0 a1 a2
  | false, true, true, false => w219 a0 a1 a2
  | true, true, true, false => w251 a0 a1 a2
  | false, false, false, true => w283 a0 a1 a2
  | true, false, false, true => w315 a0 a1 a2
  | false, true, false, true => w347 a0 a1 a2
  | true, true, false, true => w379 a0 a1 a2
  | false, false, true, true => w411 a0 a1 a2
  | true, false, true, true => w443 a0 a1 a2
  | false, true, true, true => w475 a0 a1 a2
  | true, true, true, true => w507 a0 a1 a2
theorem part28 (a0 a1 a2 : Int) : ∀ (b5 b6 b7 b8 : Bool), Way a0 a1 a2 [false, false, true, true, true, b5, b6, b7, b8]
  | false, false, false, false => w28 a0 a1 a2
  | true, false, false, false => w60 a0 a1 a2
  | false, true, false, false => w92 a0 a1 a2
  | true, true, false, false => w124 a0 a1 a2
  | false, false, true, false => w156 a0 a1 a2
  | true, false, true, false => w188 a0 a1 a2
  | false, true, true, false => w220 a0 a1 a2
  | true, true, true, false => w252 a0 a1 a2
  | false, false, false, true => w284 a0 a1 a2
  | true, false, false, true => w316 a0 a1 a2
  | false, true, false, true => w348 a0 a1 a2
  | true, true, false, true => w380 a0 a1 a2
  | false, false, true, true => w412 a0 a1 a2
  | true, false, true, true => w444 a0 a1 a2
  | false, true, true, true => w476 a0 a1 a2
  | true, true, true, true => w508 a0 a1 a2
theorem part29 (a0 a1 a2 : Int) : ∀ (b5 b6 b7 b8 : Bool), Way a0 a1 a2 [true, false, true, true, true, b5, b6, b7, b8]
  | false, false, false, false => w29 a0 a1 a2
  | true, false, false, false => w61 a0 a1 a2
  | false, true, false, false => w93 a0 a1 a2
  | true, true, false, false => w125 a0 a1 a2
  | false, false, true, false => w157 a0 a1 a2
  | true, false, true, false => w189 a0 a1 a2
  | false, true, true, false => w221 a0 a1 a2
  | true, true, true, false => w253 a0 a1 a2
  | false, false, false, true => w285 a0 a1 a2
  | true, false, false, true => w317 a0 a1 a2
  | false, true, false, true => w349 a0 a1 a2
  | true, true, false, true => w381 a0 a1 a2
  | false, false, true, true => w413 a0 a1 a2
  | true, false, true, true => w445 a0 a1 a2
  | false, true, true, true => w477 a0 a1 a2
  | true, true, true, true => w509 a0 a1 a2
theorem part30 (a0 a1 a2 : Int) : ∀ (b5 b6 b7 b8 : Bool), Way a0 a1 a2 [false, true, true, true, true, b5, b6, b7, b8]
  | false, false, false, false => w30 a0 a1 a2
  | true, false, false, false => w62 a0 a1 a2
  | false, true, false, false => w94 a0 a1 a2
  | true, true, false, false => w126 a0 a1 a2
  | false, false, true, false => w158 a0 a1 a2
  | true, false, true, false => w190 a0 a1 a2
  | false, true, true, false => w222 a0 a1 a2
  | true, true, true, false => w254 a0 a1 a2
  | false, false, false, true => w286 a0 a1 a2
  | true, false, false, true => w318 a0 a1 a2
  | false, true, false, true => w350 a0 a1 a2
  | true, true, false, true => w382 a0 a1 a2
  | false, false, true, true => w414 a0 a1 a2
  | true, false, true, true => w446 a0 a1 a2
  | false, true, true, true => w478 a0 a1 a2
  | true, true, true, true => w510 a0 a1 a2
theorem part31 (a0 a1 a2 : Int) : ∀ (b5 b6 b7 b8 : Bool), Way a0 a1 a2 [true, true, true, true, true, b5, b6, b7, b8]
  | false, false, false, false => w31 a0 a1 a2
  | true, false, false, false => w63 a0 a1 a2
  | false, true, false, false => w95 a0 a1 a2
  | true, true, false, false => w127 a0 a1 a2
  | false, false, true, false => w159 a0 a1 a2
  | true, false, true, false => w191 a0 a1 a2
  | false, true, true, false => w223 a0 a1 a2
  | true, true, true, false => w255 a0 a1 a2
  | false, false, false, true => w287 a0 a1 a2
  | true, false, false, true => w319 a0 a1 a2
  | false, true, false, true => w351 a0 a1 a2
  | true, true, false, true => w383 a0 a1 a2
  | false, false, true, true => w415 a0 a1 a2
  | true, false, true, true => w447 a0 a1 a2
  | false, true, true, true => w479 a0 a1 a2
  | true, true, true, true => w511 a0 a1 a2
theorem ways (a0 a1 a2 : Int) : ∀ (b0 b1 b2 b3 b4 b5 b6 b7 b8 : Bool), Way a0 a1 a2 [b0, b1, b2, b3, b4, b5, b6, b7, b8]
  | false, false, false, false, false, b5, b6, b7, b8 => part0 a0 a1 a2 b5 b6 b7 b8
  | true, false, false, false, false, b5, b6, b7, b8 => part1 a0 a1 a2 b5 b6 b7 b8
  | false, true, false, false, false, b5, b6, b7, b8 => part2 a0 a1 a2 b5 b6 b7 b8
  | true, true, false, false, false, b5, b6, b7, b8 => part3 a0 a1 a2 b5 b6 b7 b8
  | false, false, true, false, false, b5, b6, b7, b8 => part4 a0 a1 a2 b5 b6 b7 b8
  | true, false, true, false, false, b5, b6, b7, b8 => part5 a0 a1 a2 b5 b6 b7 b8
  | false, true, true, false, false, b5, b6, b7, b8 => part6 a0 a1 a2 b5 b6 b7 b8
  | true, true, true, false, false, b5, b6, b7, b8 => part7 a0 a1 a2 b5 b6 b7 b8
  | false, false, false, true, false, b5, b6, b7, b8 => part8 a0 a1 a2 b5 b6 b7 b8
  | true, false, false, true, false, b5, b6, b7, b8 => part9 a0 a1 a2 b5 b6 b7 b8
  | false, true, false, true, false, b5, b6, b7, b8 => part10 a0 a1 a2 b5 b6 b7 b8
  | true, true, false, true, false, b5, b6, b7, b8 => part11 a0 a1 a2 b5 b6 b7 b8
  | false, false, true, true, false, b5, b6, b7, b8 => part12 a0 a1 a2 b5 b6 b7 b8
  | true, false, true, true, false, b5, b6, b7, b8 => part13 a0 a1 a2 b5 b6 b7 b8
  | false, true, true, true, false, b5, b6, b7, b8 => part14 a0 a1 a2 b5 b6 b7 b8
  | true, true, true, true, false, b5, b6, b7, b8 => part15 a0 a1 a2 b5 b6 b7 b8
  | false, false, false, false, true, b5, b6, b7, b8 => part16 a0 a1 a2 b5 b6 b7 b8
  | true, false, false, false, true, b5, b6, b7, b8 => part17 a0 a1 a2 b5 b6 b7 b8
  | false, true, false, false, true, b5, b6, b7, b8 => part18 a0 a1 a2 b5 b6 b7 b8
  | true, true, false, false, true, b5, b6, b7, b8 => part19 a0 a1 a2 b5 b6 b7 b8
  | false, false, true, false, true, b5, b6, b7, b8 => part20 a0 a1 a2 b5 b6 b7 b8
  | true, false, true, false, true, b5, b6, b7, b8 => part21 a0 a1 a2 b5 b6 b7 b8
  | false, true, true, false, true, b5, b6, b7, b8 => part22 a0 a1 a2 b5 b6 b7 b8
  | true, true, true, false, true, b5, b6, b7, b8 => part23 a0 a1 a2 b5 b6 b7 b8
  | false, false, false, true, true, b5, b6, b7, b8 => part24 a0 a1 a2 b5 b6 b7 b8
  | true, false, false, true, true, b5, b6, b7, b8 => part25 a0 a1 a2 b5 b6 b7 b8
  | false, true, false, true, true, b5, b6, b7, b8 => part26 a0 a1 a2 b5 b6 b7 b8
  | true, true, false, true, true, b5, b6, b7, b8 => part27 a0 a1 a2 b5 b6 b7 b8
  | false, false, true, true, true, b5, b6, b7, b8 => part28 a0 a1 a2 b5 b6 b7 b8
  | true, false, true, true, true, b5, b6, b7, b8 => part29 a0 a1 a2 b5 b6 b7 b8
  | false, true, true, true, true, b5, b6, b7, b8 => part30 a0 a1 a2 b5 b6 b7 b8
  | true, true, true, true, true, b5, b6, b7, b8 => part31 a0 a1 a2 b5 b6 b7 b8
theorem bestRuns (a0 a1 a2 : Int) : ∃ cfg', CfgOK Try.prog (cfg cfg') ∧ goT Try.prog (cfg cfg') (tab cfg') 4000 3 [.xi .i64 a0 (maskX (bitsList a0 9 0) 0), .xi .i64 a1 (remX 7 (remV a1 7)), .xi .i64 a2 (remX 7 (remV a2 7))] = true := by
  obtain ⟨p, l, hT, hl, h⟩ := ways a0 a1 a2 _ _ _ _ _ _ _ _ _
  exact ⟨_, okB hT hl, lall_mem (lall_mem h (mem_below (remV_lt a1 (by decide)))) (mem_below (remV_lt a2 (by decide)))⟩
end Go.Zev.Ob
